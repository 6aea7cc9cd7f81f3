-- Made by a program of this session (wip/tools) out of the loaded program; not trusted: Lean checks it.
import Derived.Test.YtmegggomhjgehaaPFnCoverx0
import Derived.Test.YtmegggomhjgehaaPFnCoverx6
import Derived.Test.YtmegggomhjgehaaPFnCoverx7
import Derived.Test.YtmegggomhjgehaaPFnCoverx8
-- packed
-- packed2
namespace Go.Proofs.Ytmegggomhjgehaa.PFnCover
open Go.RowKit Go.Proofs.YtmegggomhjgehaaW.PrintWords Go.Proofs.YtmegggomhjgehaaW.PrintLast Go.Proofs.YtmegggomhjgehaaW.PrintMore
attribute [local go_sem] max2_int min2_int max_two min_two max_three min_three max_four min_four
set_option linter.unusedVariables false
set_option linter.unusedSimpArgs false

/-! ### spec_l92Cover: function 51 -/
mutual
def spec_l92Cover.j0:Nat→Int→Bool→List Int→Int→List Int→List Int→Option (List Int×List Int×Int×(List (List Int))×Int)
  | 0,_,_,_,_,_,_=>none
  | k+1,x5,x22,x1000,x1001,x360000,x360001=>if x22=true then ((spec_l91Map.f k x1000 x1001 1).bind fun bt362=>((spec_l6Rd_pick.f k x1000 bt362.2.2 6).bind fun bt369=>(spec_l92Cover.j1 k (wrap64 (1+bt369.1)) x1000 bt369.2 bt362.1 bt362.2.1))) else (spec_l92Cover.j1 k x5 x1000 x1001 x360000 x360001)
def spec_l92Cover.j1:Nat→Int→List Int→Int→List Int→List Int→Option (List Int×List Int×Int×(List (List Int))×Int)
  | 0,_,_,_,_,_=>none
  | k+1,x5,x1000,x1001,x360000,x360001=>spec_l92Cover.l0 k x5 (([]:List (List Int))) 0 x1000 x1001 x360000 x360001
def spec_l92Cover.l0:Nat→Int→List (List Int)→Int→List Int→Int→List Int→List Int→Option (List Int×List Int×Int×(List (List Int))×Int)
  | 0,_,_,_,_,_,_,_=>none
  | k+1,x5,x7,x8,x1000,x1001,x360000,x360001=>if x8<(wrap64 ((x360001.length:Int) / 2)) then ((spec_l91Perm.f k x1000 x1001 x5).bind fun bt374=>(if x7.length<5864062014805 then (spec_l92Cover.l0 k x5 (x7 ++ [bt374.1]) (wrap64 (x8+1)) x1000 bt374.2 x360000 x360001) else (none))) else ((spec_l6Rd_pick.f k x1000 x1001 40).bind fun bt381=>(if bt381.1=0 then ((some (([0,7,wrap64 (x5+1)]:List Int):List Int)).bind fun y383=>((spec_l6Rd_pick.f k x1000 bt381.2 3).bind fun bt386=>(if 0≤bt386.1 then (if bt386.1<(y383.length:Int) then (some (x360000,x360001,rd y383 bt386.1,x7,bt386.2)) else (none)) else (none)))) else (if bt381.1=1 then ((spec_l1Same.f k x5).bind fun t389=>(if x7.length<5864062014805 then (some (x360000,x360001,x5,(x7 ++ [t389]),bt381.2)) else (none))) else (some (x360000,x360001,x5,x7,bt381.2)))))
end
def spec_l92Cover.f (k:Nat) (s0_0:List Int) (s0_1:Int):Option (List Int×List Int×Int×(List (List Int))×Int):=(spec_l6Rd_pick.f k s0_0 s0_1 3).bind fun bt350=>(if (wrap64 (1+bt350.1))=0 then (none) else ((spec_l91Map.f k s0_0 bt350.2 (wrap64 (Int.tdiv 6 (wrap64 (1+bt350.1))))).bind fun bt352=>(if (wrap64 (1+bt350.1))=1 then ((spec_l6Rd_pick.f k s0_0 bt352.2.2 2).bind fun bt360=>(spec_l92Cover.j0 k (wrap64 (1+bt350.1)) (bt360.1 == 0) s0_0 bt360.2 bt352.1 bt352.2.1)) else (spec_l92Cover.j0 k (wrap64 (1+bt350.1)) false s0_0 bt352.2.2 bt352.1 bt352.2.1))))
def spec_l92Cover.T13:Bool×List (List Nat×List Nat):=(true,[([],[]),([],[]),([1],[1]),([2],[2]),([],[]),([4],[4]),([3,5],[3,5]),([6],[6]),([],[]),([0,5,0],[0]),([7,9,0,1,2,3,4,5,6,7,9],[7]),([8,10,0,1,2,3,4,5,6,7,8,9,10],[8])])
def spec_l92Cover.B13:List Nat := [0,0,2,6,0,16,62,126,0,49,767,2047]
theorem spec_l92Cover.tab13:rtab .any (opsOf Try.f51 13)=spec_l92Cover.T13:=by kernel_rfl
theorem spec_l92Cover.bits13:waitsOk spec_l92Cover.T13.2 spec_l92Cover.B13=true:=by kernel_rfl
def spec_l92Cover.T15:Bool×List (List Nat×List Nat):=(true,[([],[]),([],[]),([],[]),([],[]),([3],[3]),([4],[4]),([2,5,4],[2,5]),([0,6,0],[0]),([1,7,0,1,7],[1]),([6,8,0,1,2,3,4,5,6,7,8],[6])])
def spec_l92Cover.B15:List Nat := [0,0,0,0,8,24,60,125,255,511]
theorem spec_l92Cover.tab15:rtab .any (opsOf Try.f51 15)=spec_l92Cover.T15:=by kernel_rfl
theorem spec_l92Cover.bits15:waitsOk spec_l92Cover.T15.2 spec_l92Cover.B15=true:=by kernel_rfl
set_option maxHeartbeats 8000000 in
set_option maxRecDepth 100000 in
theorem spec_l92Cover.calls (k:Nat) (g:Nat) (s0_0:List Int) (s0_1:Int) (r1:List Int) (r2:List Int) (r3:Int) (r4:List (List Int)) (r5:Int) (w0 w:World) (hI:IsS82 w0 w g s0_0 s0_1) (hB:Below w0.heap.size w0 w) (h:spec_l92Cover.f k s0_0 s0_1=some (r1,r2,r3,r4,r5)) :
    Calls Try.prog 51 #[.pointer (some ⟨g,0,none⟩)] w fun e w' => ∃ v0_ v1_ v3_:Value,e = .returned (.tuple #[.agg #[v0_,v1_],.int .i64 r3,v3_])∧Kd.Q (Kd.int .i64) 3 w' w.heap.size (fun k_=>some k_≠(v1_:Value).ownBlock) v0_ r1∧Kd.R (Kd.int .i64) 3 w' w.heap.size (fun k_=>some k_≠(v0_:Value).ownBlock) v1_ r2∧Kd.S (Kd.slice 3 (Kd.int .i64)) 23 w' w.heap.size (fun k_=>some k_≠(v0_:Value).ownBlock∧some k_≠(v1_:Value).ownBlock) v3_ r4∧IsS82 w0 w' g s0_0 r5∧Below w0.heap.size w0 w'∧KeepBut w w' g none:=by
 have hu25:=Try.underlying25;have HI0:=A0_ hI
 have HK:=A0_ (KeepBut.refl w g none)
 have HL:=A0_ hB.size;clear hI;have HW0:=A0_ hB.size;have HB:=A0_ hB;clear hB
 have H:((spec_l6Rd_pick.f k s0_0 s0_1 3).bind fun bt350=>(if (wrap64 (1+bt350.1))=0 then (none) else ((spec_l91Map.f k s0_0 bt350.2 (wrap64 (Int.tdiv 6 (wrap64 (1+bt350.1))))).bind fun bt352=>(if (wrap64 (1+bt350.1))=1 then ((spec_l6Rd_pick.f k s0_0 bt352.2.2 2).bind fun bt360=>(spec_l92Cover.j0 k (wrap64 (1+bt350.1)) (bt360.1 == 0) s0_0 bt360.2 bt352.1 bt352.2.1)) else (spec_l92Cover.j0 k (wrap64 (1+bt350.1)) false s0_0 bt352.2.2 bt352.1 bt352.2.1)))))=some (r1,r2,r3,r4,r5):=h
 clear h;obtain⟨⟨t350,t351⟩,A2,H⟩:=zbind H;dsimp only at H
 have c3:=zqc H;replace H:=zqh H
 have c3b0:((wrap64 (1+t350)) == 0)=false:=beq_eq_false_iff_ne.mpr c3
 have c3b1:((wrap64 (1+t350)) != 0)=true:=bne_iff_ne.mpr c3
 obtain⟨⟨t352,t355,t358⟩,A4,H⟩:=zbind H;dsimp only at H;have HC5:=A0_ H;clear H
 go_enter Try.func51,Try.ntmps51
 go_upto_region 3 with(first|((with_reducible refine gD (N:=2) rfl ?_);refine zX (N:=2) (cs := #[.slice none 0 0,.slice none 0 0]) (t:=25) ?_;intro gb349 hg w6 hbox hb;replace HB:=A0_ (bT (by repeat(first|(with_reducible first|exact HB.out|apply bA|apply bN|apply bD|refine bS ?_ (IsS82.ge HI0.out))|exact HB.out)) hb);have BK349:=A0_ (hbox);have GW349:=A0_ ((by rw [hg];exact(keep_size (w:=w) (g:=g) (row:=none) (by repeat(first|(with_reducible first|exact HK.out|apply KeepBut.set_|apply keep_drewN|apply keep_drew|apply keep_alloc)|exact HK.out))):w.heap.size≤gb349));have GE349:=A0_ ((Nat.le_trans HW0.out (by rw [hg];exact(keep_size (w:=w) (g:=g) (row:=none) (by repeat(first|(with_reducible first|exact HK.out|apply KeepBut.set_|apply keep_drewN|apply keep_drew|apply keep_alloc)|exact HK.out))):w.heap.size≤gb349):w0.heap.size≤gb349));replace HK:=A0_ (KeepBut.trans (by repeat(first|(with_reducible first|exact HK.out|apply KeepBut.set_|apply keep_drewN|apply keep_drew|apply keep_alloc)|exact HK.out)) (KeepBut.of_below hb g none) (.inl rfl));have NB0_349:=A0_ ((by rw [hg];exact Nat.ne_of_lt (IsS82.lt (show IsS82 w0 _ g s0_0 s0_1 from by repeat(first|(with_reducible first|exact HI0.out|apply IsS82.alloc|apply IsS82.drewN|apply IsS82.drew|apply IsS82.set_1)|exact HI0.out))):g≠gb349));have NB349_0:=A0_ ((by rw [hg];exact Nat.ne_of_gt (IsS82.lt (show IsS82 w0 _ g s0_0 s0_1 from by repeat(first|(with_reducible first|exact HI0.out|apply IsS82.alloc|apply IsS82.drewN|apply IsS82.drew|apply IsS82.set_1)|exact HI0.out))):gb349≠g));replace HI0:=A0_ (IsS82.below (by repeat(first|(with_reducible first|exact HI0.out|apply IsS82.alloc|apply IsS82.drewN|apply IsS82.drew|apply IsS82.set_1)|exact HI0.out)) hb);clear hb hbox hg)|((with_reducible refine gC (f:=74) rfl ?_);refine zJ (some 10) Try.func74 #[.pointer (some ⟨g,0,none⟩),.int .i64 3] ?_;(with_reducible refine(spec_l6Rd_pick.calls k g s0_0 s0_1 3 t350 t351 w0 _ ?side1 ?side2 A2.out).mono ?_);(case side1=>repeat(first|(with_reducible first|exact HI0.out|apply IsS82.alloc|apply IsS82.drewN|apply IsS82.drew|apply IsS82.set_1|refine IsS82.far ?_ NB0_349.out _)|exact HI0.out));(case side2=>repeat(first|(with_reducible first|exact HB.out|apply bA|apply bN|apply bD|refine bS ?_ (IsS82.ge HI0.out)|refine bS ?_ GE349.out)|exact HB.out));rintro e w7 ⟨rfl,hi,hb,hk⟩;refine⟨_,rfl,?_⟩;replace BK349:=A0_ (KeepBut.blk hk (g':=gb349) (o := .cells #[.slice none 0 0,.slice none 0 0] 25 (0,0)) (zK_ BK349) NB349_0.out (by simp));replace HK:=A0_ (KeepBut.trans (by repeat(first|(with_reducible first|exact HK.out|apply KeepBut.set_|apply keep_drewN|apply keep_drew|apply keep_alloc|refine keep_far ?_ GW349.out _)|exact HK.out)) hk (.inl rfl));replace HB:=A0_ (hb);replace HI0:=A0_ (hi);(try clear hb))|((with_reducible refine gC (f:=75) rfl ?_);refine zJ (some 15) Try.func75 #[.pointer (some ⟨g,0,none⟩),.int .i64 (wrap64 (Int.tdiv 6 (wrap64 (1+t350))))] ?_;(with_reducible refine(spec_l91Map.calls k g s0_0 t351 (wrap64 (Int.tdiv 6 (wrap64 (1+t350)))) t352 t355 t358 w0 _ ?side1 ?side2 A4.out).mono ?_);(case side1=>repeat(first|(with_reducible first|exact HI0.out|apply IsS82.alloc|apply IsS82.drewN|apply IsS82.drew|apply IsS82.set_1|refine IsS82.far ?_ NB0_349.out _)|exact HI0.out));(case side2=>repeat(first|(with_reducible first|exact HB.out|apply bA|apply bN|apply bD|refine bS ?_ (IsS82.ge HI0.out)|refine bS ?_ GE349.out)|exact HB.out));rintro e w8 ⟨v353,v356,rfl,ho0,ho1,hi,hb,hk⟩;refine⟨_,rfl,?_⟩;replace BK349:=A0_ (KeepBut.blk hk (g':=gb349) (o := .cells #[.slice none 0 0,.slice none 0 0] 25 (0,0)) (zK_ BK349) NB349_0.out (by simp));have HO354:=A0_ (Kd.Q_lower ho0 (keep_size (w:=w) (g:=g) (row:=none) (by repeat(first|(with_reducible first|exact HK.out|apply KeepBut.set_|apply keep_drewN|apply keep_drew|apply keep_alloc|refine keep_far ?_ GW349.out _)|exact HK.out))));have HO357:=A0_ (rL ho1 (keep_size (w:=w) (g:=g) (row:=none) (by repeat(first|(with_reducible first|exact HK.out|apply KeepBut.set_|apply keep_drewN|apply keep_drew|apply keep_alloc|refine keep_far ?_ GW349.out _)|exact HK.out))));replace HK:=A0_ (KeepBut.trans (by repeat(first|(with_reducible first|exact HK.out|apply KeepBut.set_|apply keep_drewN|apply keep_drew|apply keep_alloc|refine keep_far ?_ GW349.out _)|exact HK.out)) hk (.inl rfl));replace HB:=A0_ (hb);replace HI0:=A0_ (hi);(try clear hb);(try clear ho0);(try clear ho1))|((with_reducible refine gD (N:=6) rfl ?_);refine zX (N:=6) (cs := #[.slice none 0 0,.slice none 0 0]) (t:=25) ?_;intro gb359 hg w9 hbox hb;replace HO354:=A0_ (Kd.Q_below (zQ_ HO354) hb);replace HO357:=zR HO357 hb;replace HB:=A0_ (bT (by repeat(first|(with_reducible first|exact HB.out|apply bA|apply bN|apply bD|refine bS ?_ (IsS82.ge HI0.out)|refine bS ?_ GE349.out)|exact HB.out)) hb);have BK359:=A0_ (hbox);have GW359:=A0_ ((by rw [hg];exact(keep_size (w:=w) (g:=g) (row:=none) (by repeat(first|(with_reducible first|exact HK.out|apply KeepBut.set_|apply keep_drewN|apply keep_drew|apply keep_alloc|refine keep_far ?_ GW349.out _)|exact HK.out))):w.heap.size≤gb359));have GE359:=A0_ ((Nat.le_trans HW0.out (by rw [hg];exact(keep_size (w:=w) (g:=g) (row:=none) (by repeat(first|(with_reducible first|exact HK.out|apply KeepBut.set_|apply keep_drewN|apply keep_drew|apply keep_alloc|refine keep_far ?_ GW349.out _)|exact HK.out))):w.heap.size≤gb359):w0.heap.size≤gb359));replace HK:=A0_ (KeepBut.trans (by repeat(first|(with_reducible first|exact HK.out|apply KeepBut.set_|apply keep_drewN|apply keep_drew|apply keep_alloc|refine keep_far ?_ GW349.out _)|exact HK.out)) (KeepBut.of_below hb g none) (.inl rfl));have NB349_359:=zL hg BK349;have NB359_349:=zM hg BK349;replace BK349:=zK BK349 hb;have NB0_359:=A0_ ((by rw [hg];exact Nat.ne_of_lt (IsS82.lt (show IsS82 w0 _ g s0_0 t358 from by repeat(first|(with_reducible first|exact HI0.out|apply IsS82.alloc|apply IsS82.drewN|apply IsS82.drew|apply IsS82.set_1|refine IsS82.far ?_ NB0_349.out _)|exact HI0.out))):g≠gb359));have NB359_0:=A0_ ((by rw [hg];exact Nat.ne_of_gt (IsS82.lt (show IsS82 w0 _ g s0_0 t358 from by repeat(first|(with_reducible first|exact HI0.out|apply IsS82.alloc|apply IsS82.drewN|apply IsS82.drew|apply IsS82.set_1|refine IsS82.far ?_ NB0_349.out _)|exact HI0.out))):gb359≠g));replace HI0:=A0_ (IsS82.below (by repeat(first|(with_reducible first|exact HI0.out|apply IsS82.alloc|apply IsS82.drewN|apply IsS82.drew|apply IsS82.set_1|refine IsS82.far ?_ NB0_349.out _)|exact HI0.out)) hb);clear hb hbox hg;obtain⟨Ao10,co10,eo10,_⟩:=Kd.Q_slice HO354.out;subst eo10;have hnb11:=NB359_349.out;have hnc11:=NB349_359.out;have hnb12:=NB359_0.out;have hnc12:=NB0_359.out;have hcz13_0:=zc0 BK359;have hcz13_1:=zc1 BK359;have hfz13_0:=kF BK359.out 0;have hfz13_1:=kF BK359.out 1;obtain⟨Ao14,co14,eo14⟩:=rS HO357.out;subst eo14))
 (try simp only [Act.put,List.setIfInBounds_toArray,List.set_cons_zero,List.set_cons_succ])
 go_cut [22] (fun v22 wc => ∃ (kq:Nat) (x22_4:Bool) (x1001_4:Int),v22 = .bool x22_4∧Aside0 (spec_l92Cover.j0 kq (wrap64 (1+t350)) x22_4 s0_0 x1001_4 t352 t355=some (r1,r2,r3,r4,r5))∧Aside0 (kq≤k)∧Aside0 (Kd.Q (Kd.int .i64) 3 wc w.heap.size (fun k_=>some k_≠((.slice Ao14 t355.length co14):Value).ownBlock) (.slice Ao10 t352.length co10) t352)∧Aside0 (Kd.R (Kd.int .i64) 3 wc w.heap.size (fun k_=>some k_≠((.slice Ao10 t352.length co10):Value).ownBlock) (.slice Ao14 t355.length co14) t355)∧Aside0 (wc.heap[gb349]? = some (.cells #[(.slice none 0 0),(.slice none 0 0)] 25 (0,0)))∧Aside0 (wc.heap[gb359]? = some (.cells #[(.slice Ao10 t352.length co10),(.slice Ao14 t355.length co14)] 25 (0,0)))∧Aside0 (IsS82 w0 wc g s0_0 x1001_4)∧Aside0 (KeepBut w wc g none)∧Aside0 (Below w0.heap.size w0 wc))
 case first =>
  have H:=HC5.out;clear HC5
  by_cases c15:(wrap64 (1+t350))=1
  ·rw [if_pos c15] at H
   have c15b0:((wrap64 (1+t350)) == 1)=true:=beq_iff_eq.mpr c15
   have c15b1:((wrap64 (1+t350)) != 1)=false:=bne_eq_false_iff_eq.mpr c15
   clear c15
   (first|rw [c15b0]|(simp only [i64_w,i32_w];rw [c15b0])|skip)
   obtain⟨⟨t360,t361⟩,A16,H⟩:=zbind H;dsimp only at H;have H':=A0_ H;clear H
   go_wp2_with (first|(go_at_call 74;(with_reducible refine(spec_l6Rd_pick.calls k g s0_0 t358 2 t360 t361 w0 _ ?side1 ?side2 A16.out).mono ?_);(case side1=>repeat(first|(with_reducible first|exact HI0.out|apply IsS82.alloc|apply IsS82.drewN|apply IsS82.drew|apply IsS82.set_1|refine IsS82.far ?_ NB0_349.out _|refine IsS82.far ?_ NB0_359.out _)|exact HI0.out));(case side2=>repeat(first|(with_reducible first|exact HB.out|apply bA|apply bN|apply bD|refine bS ?_ (IsS82.ge HI0.out)|refine bS ?_ GE349.out|refine bS ?_ GE359.out)|exact HB.out));rintro e w17 ⟨rfl,hi,hb,hk⟩;replace BK349:=A0_ (KeepBut.blk hk (g':=gb349) (o := .cells #[.slice none 0 0,.slice none 0 0] 25 (0,0)) (by(with_reducible repeat(first|refine kN ?_ _|refine kD ?_|refine kA ?_ _));refine blk_far ?_ NB349_359.out _;(with_reducible repeat(first|refine kN ?_ _|refine kD ?_|refine kA ?_ _));refine blk_far ?_ NB349_359.out _;(with_reducible repeat(first|refine kN ?_ _|refine kD ?_|refine kA ?_ _));exact BK349.out) NB349_0.out (by simp));replace HO354:=A0_ (Kd.Q_mono (Kd.Q_keep (IsS82.apartQ (show IsS82 w0 _ g s0_0 t358 from by repeat(first|(with_reducible first|exact HI0.out|apply IsS82.alloc|apply IsS82.drewN|apply IsS82.drew|apply IsS82.set_1|refine IsS82.far ?_ NB0_349.out _|refine IsS82.far ?_ NB0_359.out _)|exact HI0.out)) (by(with_reducible repeat(first|apply Kd.Q_alloc|apply Kd.Q_drewN|apply Kd.Q_drew));exact(Kd.Q_mono (Kd.Q_far (p:=⟨gb359,1,none⟩) (Kd.Q_far (p:=⟨gb359,0,none⟩) (Kd.Q_types HO354.out BK359.out (by decide)) (fun _ hk=>hk.2) (.slice Ao10 t352.length co10)) (fun _ hk=>hk.2) (.slice Ao14 t355.length co14)) (fun _ h_=>h_.1))) (by decide)) hk (fun _ h=>h.2)) (fun _ h=>h.1));replace HO357:=A0_ (rM (Kd.R_keep (IsS82.apart (show IsS82 w0 _ g s0_0 t358 from by repeat(first|(with_reducible first|exact HI0.out|apply IsS82.alloc|apply IsS82.drewN|apply IsS82.drew|apply IsS82.set_1|refine IsS82.far ?_ NB0_349.out _|refine IsS82.far ?_ NB0_359.out _)|exact HI0.out)) (zF HO357 BK359 (.slice Ao10 t352.length co10) (.slice Ao14 t355.length co14) 0 1) (by decide)) hk (fun _ h=>h.2)) (fun _ h=>h.1));replace BK359:=A0_ (KeepBut.blk hk (g':=gb359) (o := .cells #[.slice Ao10 t352.length co10,.slice Ao14 t355.length co14] 25 (0,0)) (by(with_reducible repeat(first|refine kN ?_ _|refine kD ?_|refine kA ?_ _));refine blk_put (cs := #[.slice Ao10 t352.length co10,.slice none 0 0]) ?_ 1 _ rfl;(with_reducible repeat(first|refine kN ?_ _|refine kD ?_|refine kA ?_ _));refine blk_put (cs := #[.slice none 0 0,.slice none 0 0]) ?_ 0 _ rfl;(with_reducible repeat(first|refine kN ?_ _|refine kD ?_|refine kA ?_ _));exact BK359.out) NB359_0.out (by simp));replace HK:=A0_ (KeepBut.trans (by repeat(first|(with_reducible first|exact HK.out|apply KeepBut.set_|apply keep_drewN|apply keep_drew|apply keep_alloc|refine keep_far ?_ GW349.out _|refine keep_far ?_ GW359.out _)|exact HK.out)) hk (.inl rfl));replace HB:=A0_ (hb);replace HI0:=A0_ (hi);(try clear hb)))
   go_meet
   case rel=>exact⟨_,((t360 == 0)),(t361),zt,H',zo,⟨zQ_ HO354⟩,⟨zR_ HO357⟩,⟨zK_ BK349⟩,⟨zK_ BK359⟩,⟨by repeat(first|(with_reducible first|exact HI0.out|apply IsS82.alloc|apply IsS82.drewN|apply IsS82.drew|apply IsS82.set_1|refine IsS82.far ?_ NB0_349.out _|refine IsS82.far ?_ NB0_359.out _)|exact HI0.out)⟩,⟨by repeat(first|(with_reducible first|exact HK.out|apply KeepBut.set_|apply keep_drewN|apply keep_drew|apply keep_alloc|refine keep_far ?_ GW349.out _|refine keep_far ?_ GW359.out _)|exact HK.out)⟩,⟨by repeat(first|(with_reducible first|exact HB.out|apply bA|apply bN|apply bD|refine bS ?_ (IsS82.ge HI0.out)|refine bS ?_ GE349.out|refine bS ?_ GE359.out)|exact HB.out)⟩⟩
  rw [if_neg c15] at H
  have c15b0:((wrap64 (1+t350)) == 1)=false:=beq_eq_false_iff_ne.mpr c15
  have c15b1:((wrap64 (1+t350)) != 1)=true:=bne_iff_ne.mpr c15
  (first|rw [c15b0]|(simp only [i64_w,i32_w];rw [c15b0])|skip)
  have H':=A0_ H;clear H
  go_wp2
  go_meet
  case rel=>exact⟨_,(false),(t358),zt,H',zo,⟨by(with_reducible repeat(first|apply Kd.Q_alloc|apply Kd.Q_drewN|apply Kd.Q_drew));exact Kd.Q_mono (Kd.Q_far (p:=⟨gb359,1,none⟩) (Kd.Q_far (p:=⟨gb359,0,none⟩) (Kd.Q_types HO354.out BK359.out (by decide)) (fun _ hk=>hk.2) (.slice Ao10 t352.length co10)) (fun _ hk=>hk.2) (.slice Ao14 t355.length co14)) (fun _ hk=>hk.1)⟩,⟨zF HO357 BK359 (.slice Ao10 t352.length co10) (.slice Ao14 t355.length co14) 0 1⟩,⟨by(with_reducible repeat(first|refine kN ?_ _|refine kD ?_|refine kA ?_ _));refine blk_far ?_ NB349_359.out _;(with_reducible repeat(first|refine kN ?_ _|refine kD ?_|refine kA ?_ _));refine blk_far ?_ NB349_359.out _;(with_reducible repeat(first|refine kN ?_ _|refine kD ?_|refine kA ?_ _));exact BK349.out⟩,⟨by(with_reducible repeat(first|refine kN ?_ _|refine kD ?_|refine kA ?_ _));refine blk_put (cs := #[.slice Ao10 t352.length co10,.slice none 0 0]) ?_ 1 _ rfl;(with_reducible repeat(first|refine kN ?_ _|refine kD ?_|refine kA ?_ _));refine blk_put (cs := #[.slice none 0 0,.slice none 0 0]) ?_ 0 _ rfl;(with_reducible repeat(first|refine kN ?_ _|refine kD ?_|refine kA ?_ _));exact BK359.out⟩,⟨by repeat(first|(with_reducible first|exact HI0.out|apply IsS82.alloc|apply IsS82.drewN|apply IsS82.drew|apply IsS82.set_1|refine IsS82.far ?_ NB0_349.out _|refine IsS82.far ?_ NB0_359.out _)|exact HI0.out)⟩,⟨by repeat(first|(with_reducible first|exact HK.out|apply KeepBut.set_|apply keep_drewN|apply keep_drew|apply keep_alloc|refine keep_far ?_ GW349.out _|refine keep_far ?_ GW359.out _)|exact HK.out)⟩,⟨by repeat(first|(with_reducible first|exact HB.out|apply bA|apply bN|apply bD|refine bS ?_ (IsS82.ge HI0.out)|refine bS ?_ GE349.out|refine bS ?_ GE359.out)|exact HB.out)⟩⟩
 case rest =>
  clear HC5;(try clear c1);(try clear p2);(try clear c3);(try clear c3b0);(try clear c3b1);(try clear c5);(try clear p6);(try clear c7);(try clear c11);(try clear c12);(try clear c15);(try clear c15b0);(try clear c15b1);(try clear hcz13_0);(try clear hcz13_1);(try clear hfz13_0);(try clear hfz13_1);obtain⟨kq,x22_4,x1001_4,rfl,HA,HJ4,HO_360000,HO_360001,BK349,BK359,HI0,HK,HB⟩:=hcut
  cases kq with
  | zero=>exact absurd HA.out (by simp [spec_l92Cover.j0])
  | succ kj4 =>
   have H:=HA.out;clear HA;simp only [spec_l92Cover.j0] at H;have HC18:=A0_ H;clear H
   go_upto_if 22 with(fail)
   go_cut [5] (fun v5 wc => ∃ (kq:Nat) (x5_17:Int) (x1001_17:Int) (x360000_17:List Int) (x360001_17:List Int) (u360000:Value) (u360001:Value),v5 = .int .i64 x5_17∧Aside0 (spec_l92Cover.j1 kq x5_17 s0_0 x1001_17 x360000_17 x360001_17=some (r1,r2,r3,r4,r5))∧Aside0 (kq≤kj4)∧Aside0 (Kd.Q (Kd.int .i64) 3 wc w.heap.size (fun k_=>some k_≠(u360001:Value).ownBlock) u360000 x360000_17)∧Aside0 (Kd.R (Kd.int .i64) 3 wc w.heap.size (fun k_=>some k_≠(u360000:Value).ownBlock) u360001 x360001_17)∧Aside0 (wc.heap[gb349]? = some (.cells #[(.slice none 0 0),(.slice none 0 0)] 25 (0,0)))∧Aside0 (wc.heap[gb359]? = some (.cells #[u360000,u360001] 25 (0,0)))∧Aside0 (IsS82 w0 wc g s0_0 x1001_17)∧Aside0 (KeepBut w wc g none)∧Aside0 (Below w0.heap.size w0 wc))
   case first =>
    have H:=HC18.out;clear HC18
    by_cases c19:x22_4=true
    ·subst c19
     have H1:((spec_l91Map.f kj4 s0_0 x1001_4 1).bind fun bt362=>((spec_l6Rd_pick.f kj4 s0_0 bt362.2.2 6).bind fun bt369=>(spec_l92Cover.j1 kj4 (wrap64 (1+bt369.1)) s0_0 bt369.2 bt362.1 bt362.2.1)))=some (r1,r2,r3,r4,r5):=by rw [if_pos rfl] at H;exact H
     clear H;have H:=H1;clear H1;obtain⟨⟨t362,t365,t368⟩,A20,H⟩:=zbind H;dsimp only at H;obtain⟨⟨t369,t370⟩,A21,H⟩:=zbind H;dsimp only at H;have H':=A0_ H;clear H
     go_wp2_with (first|((with_reducible refine gC (f:=75) rfl ?_);refine zJ (some 24) Try.func75 #[.pointer (some ⟨g,0,none⟩),.int .i64 1] ?_;(with_reducible refine(spec_l91Map.calls kj4 g s0_0 x1001_4 1 t362 t365 t368 w0 _ ?side1 ?side2 A20.out).mono ?_);(case side1=>repeat(first|(with_reducible first|exact HI0.out|apply IsS82.alloc|apply IsS82.drewN|apply IsS82.drew|apply IsS82.set_1|refine IsS82.far ?_ NB0_349.out _|refine IsS82.far ?_ NB0_359.out _)|exact HI0.out));(case side2=>repeat(first|(with_reducible first|exact HB.out|apply bA|apply bN|apply bD|refine bS ?_ (IsS82.ge HI0.out)|refine bS ?_ GE349.out|refine bS ?_ GE359.out)|exact HB.out));rintro e w22 ⟨v363,v366,rfl,ho0,ho1,hi,hb,hk⟩;refine⟨_,rfl,?_⟩;replace BK349:=A0_ (KeepBut.blk hk (g':=gb349) (o := .cells #[.slice none 0 0,.slice none 0 0] 25 (0,0)) (zK_ BK349) NB349_0.out (by simp));replace BK359:=A0_ (KeepBut.blk hk (g':=gb359) (o := .cells #[.slice Ao10 t352.length co10,.slice Ao14 t355.length co14] 25 (0,0)) (zK_ BK359) NB359_0.out (by simp));have HO364:=A0_ (Kd.Q_lower (Kd.Q_new' (Kd.Q_new' ho0 (Kd.Q_lt (zQ_ HO_360000))) (rX (zR_ HO_360001))) (keep_size (w:=w) (g:=g) (row:=none) (by repeat(first|(with_reducible first|exact HK.out|apply KeepBut.set_|apply keep_drewN|apply keep_drew|apply keep_alloc|refine keep_far ?_ GW349.out _|refine keep_far ?_ GW359.out _)|exact HK.out))));have HO367:=A0_ (rL (Kd.R_new' (Kd.R_new' ho1 (Kd.Q_lt (zQ_ HO_360000))) (rX (zR_ HO_360001))) (keep_size (w:=w) (g:=g) (row:=none) (by repeat(first|(with_reducible first|exact HK.out|apply KeepBut.set_|apply keep_drewN|apply keep_drew|apply keep_alloc|refine keep_far ?_ GW349.out _|refine keep_far ?_ GW359.out _)|exact HK.out))));replace HO_360000:=A0_ (Kd.Q_mono (Kd.Q_told (Kd.Q_told (Kd.Q_oldK (IsS82.apartQ (show IsS82 w0 _ g s0_0 x1001_4 from by repeat(first|(with_reducible first|exact HI0.out|apply IsS82.alloc|apply IsS82.drewN|apply IsS82.drew|apply IsS82.set_1|refine IsS82.far ?_ NB0_349.out _|refine IsS82.far ?_ NB0_359.out _)|exact HI0.out)) (zQ_ HO_360000) (by decide)) hk) (Kd.Q_base ho0)) (Kd.R_base ho1)) (fun _ h_=>h_.1));replace HO_360001:=A0_ (rM (rT (rT (Kd.R_oldK (IsS82.apart (show IsS82 w0 _ g s0_0 x1001_4 from by repeat(first|(with_reducible first|exact HI0.out|apply IsS82.alloc|apply IsS82.drewN|apply IsS82.drew|apply IsS82.set_1|refine IsS82.far ?_ NB0_349.out _|refine IsS82.far ?_ NB0_359.out _)|exact HI0.out)) (zR_ HO_360001) (by decide)) hk) (Kd.Q_base ho0)) (Kd.R_base ho1)) (fun _ h_=>h_.1));replace HK:=A0_ (KeepBut.trans (by repeat(first|(with_reducible first|exact HK.out|apply KeepBut.set_|apply keep_drewN|apply keep_drew|apply keep_alloc|refine keep_far ?_ GW349.out _|refine keep_far ?_ GW359.out _)|exact HK.out)) hk (.inl rfl));replace HB:=A0_ (hb);replace HI0:=A0_ (hi);(try clear hb);(try clear ho0);(try clear ho1);obtain⟨Ao23,co23,eo23,_⟩:=Kd.Q_slice HO364.out;subst eo23;have hnb24:=NB359_349.out;have hnc24:=NB349_359.out;have hnb25:=NB359_0.out;have hnc25:=NB0_359.out;have hcz26_0:=zc0 BK359;have hcz26_1:=zc1 BK359;have hfz26_0:=kF BK359.out 0;have hfz26_1:=kF BK359.out 1;obtain⟨Ao27,co27,eo27⟩:=rS HO367.out;subst eo27)|((with_reducible refine gC (f:=74) rfl ?_);refine zJ (some 26) Try.func74 #[.pointer (some ⟨g,0,none⟩),.int .i64 6] ?_;(with_reducible refine(spec_l6Rd_pick.calls kj4 g s0_0 t368 6 t369 t370 w0 _ ?side1 ?side2 A21.out).mono ?_);(case side1=>repeat(first|(with_reducible first|exact HI0.out|apply IsS82.alloc|apply IsS82.drewN|apply IsS82.drew|apply IsS82.set_1|refine IsS82.far ?_ NB0_349.out _|refine IsS82.far ?_ NB0_359.out _)|exact HI0.out));(case side2=>repeat(first|(with_reducible first|exact HB.out|apply bA|apply bN|apply bD|refine bS ?_ (IsS82.ge HI0.out)|refine bS ?_ GE349.out|refine bS ?_ GE359.out)|exact HB.out));rintro e w28 ⟨rfl,hi,hb,hk⟩;refine⟨_,rfl,?_⟩;replace HO_360000:=A0_ (Kd.Q_mono (Kd.Q_keep (IsS82.apartQ (show IsS82 w0 _ g s0_0 t368 from by repeat(first|(with_reducible first|exact HI0.out|apply IsS82.alloc|apply IsS82.drewN|apply IsS82.drew|apply IsS82.set_1|refine IsS82.far ?_ NB0_349.out _|refine IsS82.far ?_ NB0_359.out _)|exact HI0.out)) (by(with_reducible repeat(first|apply Kd.Q_alloc|apply Kd.Q_drewN|apply Kd.Q_drew));exact(Kd.Q_mono (Kd.Q_far (p:=⟨gb359,1,none⟩) (Kd.Q_far (p:=⟨gb359,0,none⟩) (Kd.Q_types HO_360000.out BK359.out (by decide)) (fun _ hk=>hk.2) (.slice Ao23 t362.length co23)) (fun _ hk=>hk.2) (.slice Ao27 t365.length co27)) (fun _ h_=>h_.1))) (by decide)) hk (fun _ h=>h.2)) (fun _ h=>h.1));replace HO_360001:=A0_ (rM (Kd.R_keep (IsS82.apart (show IsS82 w0 _ g s0_0 t368 from by repeat(first|(with_reducible first|exact HI0.out|apply IsS82.alloc|apply IsS82.drewN|apply IsS82.drew|apply IsS82.set_1|refine IsS82.far ?_ NB0_349.out _|refine IsS82.far ?_ NB0_359.out _)|exact HI0.out)) (zF HO_360001 BK359 (.slice Ao23 t362.length co23) (.slice Ao27 t365.length co27) 0 1) (by decide)) hk (fun _ h=>h.2)) (fun _ h=>h.1));replace BK349:=A0_ (KeepBut.blk hk (g':=gb349) (o := .cells #[.slice none 0 0,.slice none 0 0] 25 (0,0)) (by(with_reducible repeat(first|refine kN ?_ _|refine kD ?_|refine kA ?_ _));refine blk_far ?_ NB349_359.out _;(with_reducible repeat(first|refine kN ?_ _|refine kD ?_|refine kA ?_ _));refine blk_far ?_ NB349_359.out _;(with_reducible repeat(first|refine kN ?_ _|refine kD ?_|refine kA ?_ _));exact BK349.out) NB349_0.out (by simp));replace HO364:=A0_ (Kd.Q_mono (Kd.Q_keep (IsS82.apartQ (show IsS82 w0 _ g s0_0 t368 from by repeat(first|(with_reducible first|exact HI0.out|apply IsS82.alloc|apply IsS82.drewN|apply IsS82.drew|apply IsS82.set_1|refine IsS82.far ?_ NB0_349.out _|refine IsS82.far ?_ NB0_359.out _)|exact HI0.out)) (by(with_reducible repeat(first|apply Kd.Q_alloc|apply Kd.Q_drewN|apply Kd.Q_drew));exact(Kd.Q_mono (Kd.Q_far (p:=⟨gb359,1,none⟩) (Kd.Q_far (p:=⟨gb359,0,none⟩) (Kd.Q_types HO364.out BK359.out (by decide)) (fun _ hk=>hk.2) (.slice Ao23 t362.length co23)) (fun _ hk=>hk.2) (.slice Ao27 t365.length co27)) (fun _ h_=>h_.1))) (by decide)) hk (fun _ h=>h.2)) (fun _ h=>h.1));replace HO367:=A0_ (rM (Kd.R_keep (IsS82.apart (show IsS82 w0 _ g s0_0 t368 from by repeat(first|(with_reducible first|exact HI0.out|apply IsS82.alloc|apply IsS82.drewN|apply IsS82.drew|apply IsS82.set_1|refine IsS82.far ?_ NB0_349.out _|refine IsS82.far ?_ NB0_359.out _)|exact HI0.out)) (zF HO367 BK359 (.slice Ao23 t362.length co23) (.slice Ao27 t365.length co27) 0 1) (by decide)) hk (fun _ h=>h.2)) (fun _ h=>h.1));replace BK359:=A0_ (KeepBut.blk hk (g':=gb359) (o := .cells #[.slice Ao23 t362.length co23,.slice Ao27 t365.length co27] 25 (0,0)) (by(with_reducible repeat(first|refine kN ?_ _|refine kD ?_|refine kA ?_ _));refine blk_put (cs := #[.slice Ao23 t362.length co23,.slice Ao14 t355.length co14]) ?_ 1 _ rfl;(with_reducible repeat(first|refine kN ?_ _|refine kD ?_|refine kA ?_ _));refine blk_put (cs := #[.slice Ao10 t352.length co10,.slice Ao14 t355.length co14]) ?_ 0 _ rfl;(with_reducible repeat(first|refine kN ?_ _|refine kD ?_|refine kA ?_ _));exact BK359.out) NB359_0.out (by simp));replace HK:=A0_ (KeepBut.trans (by repeat(first|(with_reducible first|exact HK.out|apply KeepBut.set_|apply keep_drewN|apply keep_drew|apply keep_alloc|refine keep_far ?_ GW349.out _|refine keep_far ?_ GW359.out _)|exact HK.out)) hk (.inl rfl));replace HB:=A0_ (hb);replace HI0:=A0_ (hi);(try clear hb)))
     go_meet
     case rel=>exact⟨_,(wrap64 (1+t369)),(t370),(t362),(t365),(.slice Ao23 t362.length co23),(.slice Ao27 t365.length co27),zt,H',⟨by have:=HJ4.out;first|omega|exact Nat.le_refl _⟩,⟨zmQ HO364 (fun _ hk=>hk.1.1)⟩,⟨zmR HO367 (fun _ hk=>hk.1.1)⟩,⟨zK_ BK349⟩,⟨zK_ BK359⟩,⟨by repeat(first|(with_reducible first|exact HI0.out|apply IsS82.alloc|apply IsS82.drewN|apply IsS82.drew|apply IsS82.set_1|refine IsS82.far ?_ NB0_349.out _|refine IsS82.far ?_ NB0_359.out _)|exact HI0.out)⟩,⟨by repeat(first|(with_reducible first|exact HK.out|apply KeepBut.set_|apply keep_drewN|apply keep_drew|apply keep_alloc|refine keep_far ?_ GW349.out _|refine keep_far ?_ GW359.out _)|exact HK.out)⟩,⟨by repeat(first|(with_reducible first|exact HB.out|apply bA|apply bN|apply bD|refine bS ?_ (IsS82.ge HI0.out)|refine bS ?_ GE349.out|refine bS ?_ GE359.out)|exact HB.out)⟩⟩
    replace c19:=Bool.eq_false_iff.mpr c19;subst c19
    have H1:(spec_l92Cover.j1 kj4 (wrap64 (1+t350)) s0_0 x1001_4 t352 t355)=some (r1,r2,r3,r4,r5):=by rw [if_neg (show ¬ (false=true) by decide)] at H;exact H
    clear H;have H:=H1;clear H1;have H':=A0_ H;clear H
    go_wp2
    go_meet
    case rel=>exact⟨_,((wrap64 (1+t350))),(x1001_4),(t352),(t355),(.slice Ao10 t352.length co10),(.slice Ao14 t355.length co14),zt,H',⟨by have:=HJ4.out;first|omega|exact Nat.le_refl _⟩,⟨zQ_ HO_360000⟩,⟨zR_ HO_360001⟩,⟨zK_ BK349⟩,⟨zK_ BK359⟩,⟨by repeat(first|(with_reducible first|exact HI0.out|apply IsS82.alloc|apply IsS82.drewN|apply IsS82.drew|apply IsS82.set_1|refine IsS82.far ?_ NB0_349.out _|refine IsS82.far ?_ NB0_359.out _)|exact HI0.out)⟩,⟨by repeat(first|(with_reducible first|exact HK.out|apply KeepBut.set_|apply keep_drewN|apply keep_drew|apply keep_alloc|refine keep_far ?_ GW349.out _|refine keep_far ?_ GW359.out _)|exact HK.out)⟩,⟨by repeat(first|(with_reducible first|exact HB.out|apply bA|apply bN|apply bD|refine bS ?_ (IsS82.ge HI0.out)|refine bS ?_ GE349.out|refine bS ?_ GE359.out)|exact HB.out)⟩⟩
   case rest =>
    clear HC18;(try clear c1);(try clear c2);(try clear p2);(try clear c3);(try clear c3b0);(try clear c3b1);(try clear c5);(try clear p6);(try clear c7);(try clear c11);(try clear c12);(try clear c15);(try clear c15b0);(try clear c15b1);(try clear c19);(try clear c24);(try clear c25);(try clear hcz13_0);(try clear hcz13_1);(try clear hcz26_0);(try clear hcz26_1);(try clear hfz13_0);(try clear hfz13_1);(try clear hfz26_0);(try clear hfz26_1);(try clear p2);(try clear p6);obtain⟨kq,x5_17,x1001_17,x360000_17,x360001_17,u360000,u360001,rfl,HA,HJ17,HO_360000,HO_360001,BK349,BK359,HI0,HK,HB⟩:=hcut
    cases kq with
    | zero=>exact absurd HA.out (by simp [spec_l92Cover.j1])
    | succ kj17 =>
     have H:=HA.out;clear HA;simp only [spec_l92Cover.j1] at H
     obtain⟨y371,hy371⟩ : ∃ y_:List (List Int),y_=(([]:List (List Int))):=⟨_,rfl⟩
     replace H:(spec_l92Cover.l0 kj17 x5_17 y371 0 s0_0 x1001_17 x360000_17 x360001_17)=some (r1,r2,r3,r4,r5):=zH hy371 H
     have Ny371:=A0_ hy371;clear hy371;have H':=A0_ H;clear H
     go_wp2_with (first|((with_reducible refine gD (N:=28) rfl ?_);refine Kd.S_lit (Kd.slice 3 (Kd.int .i64)) _ 23 ?hg (N:=28) ?hd (xs:=([]:List (List Int))) (inner := []) (ok:=fun _=>True) (okp:=fun _=>True) ?hr ?hp (fun _ hk=>hk) trivial (Below.refl _ _) (Nat.le_refl _) (by simp) ?_;(case hd=>rfl);(case hg=>rfl);(case hr=>first|(go_simp;done)|(go_simp;rfl));(case hp=>exact(Reps.none _ _));intro v372 w29 ho30 hb hg_ hnew_;clear hg_ hnew_;(first|rw [← Ny371.out] at ho30|(simp only [Int.reduceToNat] at ho30;rw [← Ny371.out] at ho30));have HO373:=A0_ (Kd.S_lower (Kd.S_new' (Kd.S_new' ho30 (Kd.Q_lt (zQ_ HO_360000))) (rX (zR_ HO_360001))) (keep_size (w:=w) (g:=g) (row:=none) (by repeat(first|(with_reducible first|exact HK.out|apply KeepBut.set_|apply keep_drewN|apply keep_drew|apply keep_alloc|refine keep_far ?_ GW349.out _|refine keep_far ?_ GW359.out _)|exact HK.out))));replace HO_360000:=A0_ (Kd.Q_below (zQ_ HO_360000) hb);replace HO_360001:=zR HO_360001 hb;replace BK349:=zK BK349 hb;replace BK359:=zK BK359 hb;replace HK:=A0_ (KeepBut.trans (by repeat(first|(with_reducible first|exact HK.out|apply KeepBut.set_|apply keep_drewN|apply keep_drew|apply keep_alloc|refine keep_far ?_ GW349.out _|refine keep_far ?_ GW359.out _)|exact HK.out)) (KeepBut.of_below hb g none) (.inl rfl));replace HB:=A0_ (bT (by repeat(first|(with_reducible first|exact HB.out|apply bA|apply bN|apply bD|refine bS ?_ (IsS82.ge HI0.out)|refine bS ?_ GE349.out|refine bS ?_ GE359.out)|exact HB.out)) hb);replace HI0:=A0_ (IsS82.below (by repeat(first|(with_reducible first|exact HI0.out|apply IsS82.alloc|apply IsS82.drewN|apply IsS82.drew|apply IsS82.set_1|refine IsS82.far ?_ NB0_349.out _|refine IsS82.far ?_ NB0_359.out _)|exact HI0.out)) hb);clear hb ho30))
     go_loopg [7,8] kj17 (fun kq v7 v8 w' => ∃ (x7_3:List (List Int)) (x8_3:Int) (x1001_3:Int),v8 = .int .i64 x8_3∧Aside0 (spec_l92Cover.l0 kq x5_17 x7_3 x8_3 s0_0 x1001_3 x360000_17 x360001_17=some (r1,r2,r3,r4,r5))∧Aside0 (kq≤kj17)∧Aside0 (Kd.S (Kd.slice 3 (Kd.int .i64)) 23 w' w.heap.size (fun k_=>some k_≠(u360000:Value).ownBlock∧some k_≠(u360001:Value).ownBlock) v7 x7_3)∧Aside0 (Kd.Q (Kd.int .i64) 3 w' w.heap.size (fun k_=>some k_≠(u360001:Value).ownBlock) u360000 x360000_17)∧Aside0 (Kd.R (Kd.int .i64) 3 w' w.heap.size (fun k_=>some k_≠(u360000:Value).ownBlock) u360001 x360001_17)∧Aside0 (w'.heap[gb349]? = some (.cells #[(.slice none 0 0),(.slice none 0 0)] 25 (0,0)))∧Aside0 (w'.heap[gb359]? = some (.cells #[u360000,u360001] 25 (0,0)))∧Aside0 (IsS82 w0 w' g s0_0 x1001_3)∧Aside0 (KeepBut w w' g none)∧Aside0 (Below w0.heap.size w0 w'))
     case atStart=>exact⟨(y371),(0),(x1001_17),zt,H',⟨Nat.le_refl _⟩,⟨zmS HO373 (fun _ hk=>⟨hk.1.2,hk.2⟩)⟩,⟨zQ_ HO_360000⟩,⟨zR_ HO_360001⟩,⟨zK_ BK349⟩,⟨zK_ BK359⟩,⟨by repeat(first|(with_reducible first|exact HI0.out|apply IsS82.alloc|apply IsS82.drewN|apply IsS82.drew|apply IsS82.set_1|refine IsS82.far ?_ NB0_349.out _|refine IsS82.far ?_ NB0_359.out _)|exact HI0.out)⟩,⟨by repeat(first|(with_reducible first|exact HK.out|apply KeepBut.set_|apply keep_drewN|apply keep_drew|apply keep_alloc|refine keep_far ?_ GW349.out _|refine keep_far ?_ GW359.out _)|exact HK.out)⟩,⟨by repeat(first|(with_reducible first|exact HB.out|apply bA|apply bN|apply bD|refine bS ?_ (IsS82.ge HI0.out)|refine bS ?_ GE349.out|refine bS ?_ GE359.out)|exact HB.out)⟩⟩
     case round =>
      clear H';(try clear c1);(try clear c2);(try clear p2);(try clear c3);(try clear c3b0);(try clear c3b1);(try clear c5);(try clear p6);(try clear c7);(try clear c11);(try clear c12);(try clear c15);(try clear c15b0);(try clear c15b1);(try clear c19);(try clear c24);(try clear c25);(try clear hcz13_0);(try clear hcz13_1);(try clear hcz26_0);(try clear hcz26_1);(try clear hfz13_0);(try clear hfz13_1);(try clear hfz26_0);(try clear hfz26_1);(try clear p2);(try clear p6);obtain⟨x7_3,x8_3,x1001_3,rfl,HA,HK3,HO_7,HO_360000,HO_360001,BK349,BK359,HI0,HK,HB⟩:=hrel
      cases gk with
      | zero=>exact absurd HA.out (by simp [spec_l92Cover.l0])
      | succ k3 =>
       have H:=HA.out;clear HA;simp only [spec_l92Cover.l0] at H
       by_cases c31:x8_3<(wrap64 ((x360001_17.length:Int) / 2))
       ·rw [if_pos c31] at H
        have c31b0:=dT c31;clear c31;obtain⟨⟨t374,t377⟩,A32,H⟩:=zbind H;dsimp only at H
        have c33:=zpc H;replace H:=zph H
        have LMc33:=A0_ c33;clear c33
        obtain⟨y378,hy378⟩ : ∃ y_:List (List Int),y_=(x7_3 ++ [t374]):=⟨_,rfl⟩
        replace H:(spec_l92Cover.l0 k3 x5_17 y378 (wrap64 (x8_3+1)) s0_0 t377 x360000_17 x360001_17)=some (r1,r2,r3,r4,r5):=zH hy378 H
        have Ny378:=A0_ hy378;clear hy378;have H':=A0_ H;clear H;have hnb34:=NB359_349.out;have hnc34:=NB349_359.out;have hnb35:=NB359_0.out;have hnc35:=NB0_359.out;have hcz36_0:=zc0 BK359;have hcz36_1:=zc1 BK359;have hfz36_0:=kF BK359.out 0;have hfz36_1:=kF BK359.out 1;obtain⟨Ao37,co37,eo37⟩:=rS HO_360001.out;subst eo37
        go_wp2_with (first|((with_reducible refine gC (f:=87) rfl ?_);refine zJ (some 40) Try.func87 #[.pointer (some ⟨g,0,none⟩),.int .i64 x5_17] ?_;(with_reducible refine(spec_l91Perm.calls k3 g s0_0 x1001_3 x5_17 t374 t377 w0 _ ?side1 ?side2 A32.out).mono ?_);(case side1=>repeat(first|(with_reducible first|exact HI0.out|apply IsS82.alloc|apply IsS82.drewN|apply IsS82.drew|apply IsS82.set_1|refine IsS82.far ?_ NB0_349.out _|refine IsS82.far ?_ NB0_359.out _)|exact HI0.out));(case side2=>repeat(first|(with_reducible first|exact HB.out|apply bA|apply bN|apply bD|refine bS ?_ (IsS82.ge HI0.out)|refine bS ?_ GE349.out|refine bS ?_ GE359.out)|exact HB.out));rintro e w38 ⟨v375,rfl,ho0,hi,hb,hk⟩;refine⟨_,rfl,?_⟩;replace HO_7:=A0_ (sM (Kd.S_told (Kd.S_oldK (IsS82.apartS (show IsS82 w0 _ g s0_0 x1001_3 from by repeat(first|(with_reducible first|exact HI0.out|apply IsS82.alloc|apply IsS82.drewN|apply IsS82.drew|apply IsS82.set_1|refine IsS82.far ?_ NB0_349.out _|refine IsS82.far ?_ NB0_359.out _)|exact HI0.out)) (zS_ HO_7) (by decide)) hk) (Kd.R_base ho0)) (fun _ h_=>h_.1));replace BK349:=A0_ (KeepBut.blk hk (g':=gb349) (o := .cells #[.slice none 0 0,.slice none 0 0] 25 (0,0)) (zK_ BK349) NB349_0.out (by simp));replace BK359:=A0_ (KeepBut.blk hk (g':=gb359) (o := .cells #[u360000,.slice Ao37 x360001_17.length co37] 25 (0,0)) (zK_ BK359) NB359_0.out (by simp));have HO376:=A0_ (rL (Kd.R_new' (Kd.R_new' ho0 (Kd.Q_lt (zQ_ HO_360000))) (rX (zR_ HO_360001))) (keep_size (w:=w) (g:=g) (row:=none) (by repeat(first|(with_reducible first|exact HK.out|apply KeepBut.set_|apply keep_drewN|apply keep_drew|apply keep_alloc|refine keep_far ?_ GW349.out _|refine keep_far ?_ GW359.out _)|exact HK.out))));replace HO_360000:=A0_ (Kd.Q_mono (Kd.Q_told (Kd.Q_oldK (IsS82.apartQ (show IsS82 w0 _ g s0_0 x1001_3 from by repeat(first|(with_reducible first|exact HI0.out|apply IsS82.alloc|apply IsS82.drewN|apply IsS82.drew|apply IsS82.set_1|refine IsS82.far ?_ NB0_349.out _|refine IsS82.far ?_ NB0_359.out _)|exact HI0.out)) (zQ_ HO_360000) (by decide)) hk) (Kd.R_base ho0)) (fun _ h_=>h_.1));replace HO_360001:=A0_ (rM (rT (Kd.R_oldK (IsS82.apart (show IsS82 w0 _ g s0_0 x1001_3 from by repeat(first|(with_reducible first|exact HI0.out|apply IsS82.alloc|apply IsS82.drewN|apply IsS82.drew|apply IsS82.set_1|refine IsS82.far ?_ NB0_349.out _|refine IsS82.far ?_ NB0_359.out _)|exact HI0.out)) (zR_ HO_360001) (by decide)) hk) (Kd.R_base ho0)) (fun _ h_=>h_.1));replace HK:=A0_ (KeepBut.trans (by repeat(first|(with_reducible first|exact HK.out|apply KeepBut.set_|apply keep_drewN|apply keep_drew|apply keep_alloc|refine keep_far ?_ GW349.out _|refine keep_far ?_ GW359.out _)|exact HK.out)) hk (.inl rfl));replace HB:=A0_ (hb);replace HI0:=A0_ (hi);(try clear hb);(try clear ho0);obtain⟨Ao40,co40,eo40⟩:=rS HO376.out;subst eo40)|((with_reducible refine gB (b := .append) (xs := #[.tmp 37,.tmp 41]) rfl ?_);at_builtin;refine Kd.S_append (Kd.slice 3 (Kd.int .i64)) w.heap.size rfl (.tmp 37) (.tmp 41) 26 23 (.slice none 0 0) 24 rfl Try.underlying26 info23 rfl (by decide) (by omega) u7 x7_3 t374 [.slice Ao40 t374.length co40] (fun k_=>some k_≠(u360000:Value).ownBlock∧some k_≠(.slice Ao37 x360001_17.length co37:Value).ownBlock) (fun k_=>some k_=(.slice Ao40 t374.length co40:Value).ownBlock) rfl rfl ?aP (fun k_ hk_=>((rM (ok':=fun k_=>((fun k_=>some k_≠(u360000:Value).ownBlock∧some k_≠(.slice Ao37 x360001_17.length co37:Value).ownBlock)) k_∧some k_≠(u7:Value).ownBlock) (Kd.R_apart' (HO376.out) (Kd.S_typed HO_7.out) (by decide)) (fun k_ hk=>⟨⟨hk.1.1.2,hk.1.2⟩,hk.2⟩))).1 k_ hk_.symm) ?aF ?aO (Below.refl _ _) ?aS ?aL ?_;(case aP=>exact Kd.M_row (rM (Kd.R_tight rfl (rM (ok':=fun k_=>((fun k_=>some k_≠(u360000:Value).ownBlock∧some k_≠(.slice Ao37 x360001_17.length co37:Value).ownBlock)) k_∧some k_≠(u7:Value).ownBlock) (Kd.R_apart' (HO376.out) (Kd.S_typed HO_7.out) (by decide)) (fun k_ hk=>⟨⟨hk.1.1.2,hk.1.2⟩,hk.2⟩))) (fun _ h_=>h_)));(case aF=>exact(fun k_ hk=>⟨Kd.fresh' (Kd.Q_lt (zQ_ HO_360000)) k_ hk,Kd.fresh' (rX (zR_ HO_360001)) k_ hk⟩));(case aO=>exact(zmS HO_7 (fun k_ hk=>⟨⟨hk.1.1,hk.1.2⟩,fun e_=>hk.2 e_⟩)));(case aS=>exact(keep_size (w:=w) (g:=g) (row:=none) (by repeat(first|(with_reducible first|exact HK.out|apply KeepBut.set_|apply keep_drewN|apply keep_drew|apply keep_alloc|refine keep_far ?_ GW349.out _|refine keep_far ?_ GW359.out _)|exact HK.out))));(case aL=>have:=LMc33.out;omega);intro v379 w39 ho hb hg hat;rw [← Ny378.out] at ho;replace HO_360000:=A0_ (Kd.Q_over' (zQ_ HO_360000) (Kd.S_typed (zS_ HO_7)) (by decide) hg);replace HO_360001:=A0_ (Kd.R_over' (zR_ HO_360001) (Kd.S_typed (zS_ HO_7)) (by decide) hg);replace BK349:=A0_ (blk_grown (g:=gb349) (o := .cells #[.slice none 0 0,.slice none 0 0] 25 (0,0)) (zK_ BK349) hg (Kd.S_ne HO_7.out BK349.out (by decide)));replace BK359:=A0_ (blk_grown (g:=gb359) (o := .cells #[u360000,.slice Ao37 x360001_17.length co37] 25 (0,0)) (zK_ BK359) hg (Kd.S_ne HO_7.out BK359.out (by decide)));replace HB:=A0_ (below_weaken (by repeat(first|(with_reducible first|exact HB.out|apply bA|apply bN|apply bD|refine bS ?_ (IsS82.ge HI0.out)|refine bS ?_ GE349.out|refine bS ?_ GE359.out)|exact HB.out)) HL.out hb);replace HI0:=A0_ (IsS82.grown (by repeat(first|(with_reducible first|exact HI0.out|apply IsS82.alloc|apply IsS82.drewN|apply IsS82.drew|apply IsS82.set_1|refine IsS82.far ?_ NB0_349.out _|refine IsS82.far ?_ NB0_359.out _)|exact HI0.out)) hg (IsS82.own_neS HI0.out HO_7.out (by decide)));replace HK:=A0_ (KeepBut.trans (by repeat(first|(with_reducible first|exact HK.out|apply KeepBut.set_|apply keep_drewN|apply keep_drew|apply keep_alloc|refine keep_far ?_ GW349.out _|refine keep_far ?_ GW359.out _)|exact HK.out)) (KeepBut.of_grown hg g) (Kd.S_base2 HO_7.out));have HO380:=A0_ (ho);clear HO_7 HO376 ho hb hg hat))
        go_roundg k3
        case measure=>have:=HJ4.out;have:=HJ17.out;have:=HK3.out;omega
        case rel=>exact⟨(y378),(wrap64 (x8_3+1)),(t377),zt,H',⟨by have:=HJ4.out;have:=HJ17.out;have:=HK3.out;omega⟩,⟨zS_ HO380⟩,⟨zmQ HO_360000 (fun _ hk=>hk.1)⟩,⟨zmR HO_360001 (fun _ hk=>hk.1)⟩,⟨zK_ BK349⟩,⟨zK_ BK359⟩,⟨by repeat(first|(with_reducible first|exact HI0.out|apply IsS82.alloc|apply IsS82.drewN|apply IsS82.drew|apply IsS82.set_1|refine IsS82.far ?_ NB0_349.out _|refine IsS82.far ?_ NB0_359.out _)|exact HI0.out)⟩,⟨by repeat(first|(with_reducible first|exact HK.out|apply KeepBut.set_|apply keep_drewN|apply keep_drew|apply keep_alloc|refine keep_far ?_ GW349.out _|refine keep_far ?_ GW359.out _)|exact HK.out)⟩,⟨by repeat(first|(with_reducible first|exact HB.out|apply bA|apply bN|apply bD|refine bS ?_ (IsS82.ge HI0.out)|refine bS ?_ GE349.out|refine bS ?_ GE359.out)|exact HB.out)⟩⟩
       rw [if_neg c31] at H;have c31b0:=dF c31;clear c31;obtain⟨⟨t381,t382⟩,A41,H⟩:=zbind H;dsimp only at H
       by_cases c42:t381=0
       ·rw [if_pos c42] at H
        have c42b0:(t381 == 0)=true:=beq_iff_eq.mpr c42
        have c42b1:(t381 != 0)=false:=bne_eq_false_iff_eq.mpr c42
        clear c42
        obtain⟨y383,hy383⟩ : ∃ y_:List Int,y_=(([0,7,wrap64 (x5_17+1)]:List Int)):=⟨_,rfl⟩
        replace H:((spec_l6Rd_pick.f k3 s0_0 t382 3).bind fun bt386=>(if 0≤bt386.1 then (if bt386.1<(y383.length:Int) then (some (x360000_17,x360001_17,rd y383 bt386.1,x7_3,bt386.2)) else (none)) else (none)))=some (r1,r2,r3,r4,r5):=zH hy383 H
        have Ny383:=A0_ hy383;clear hy383;obtain⟨⟨t386,t387⟩,A43,H⟩:=zbind H;dsimp only at H
        have c44:=zpc H;replace H:=zph H
        have c44b0:=dT c44;clear c44
        have c45:=zpc H;replace H:=zph H
        have c45b0:=dT c45;clear c45;simp only [Option.some.injEq,Prod.mk.injEq] at H;obtain⟨rfl,rfl,rfl,rfl,rfl⟩:=H;have hnb46:=NB359_349.out;have hnc46:=NB349_359.out;have hnb47:=NB359_0.out;have hnc47:=NB0_359.out;have hcz48_0:=zc0 BK359;have hcz48_1:=zc1 BK359;have hfz48_0:=kF BK359.out 0;have hfz48_1:=kF BK359.out 1;obtain⟨Ao49,co49,eo49⟩:=rS HO_360001.out;subst eo49
        try go_wp2_with (first|((with_reducible refine gC (f:=74) rfl ?_);refine zJ (some 44) Try.func74 #[.pointer (some ⟨g,0,none⟩),.int .i64 40] ?_;(with_reducible refine(spec_l6Rd_pick.calls k3 g s0_0 x1001_3 40 t381 t382 w0 _ ?side1 ?side2 A41.out).mono ?_);(case side1=>repeat(first|(with_reducible first|exact HI0.out|apply IsS82.alloc|apply IsS82.drewN|apply IsS82.drew|apply IsS82.set_1|refine IsS82.far ?_ NB0_349.out _|refine IsS82.far ?_ NB0_359.out _)|exact HI0.out));(case side2=>repeat(first|(with_reducible first|exact HB.out|apply bA|apply bN|apply bD|refine bS ?_ (IsS82.ge HI0.out)|refine bS ?_ GE349.out|refine bS ?_ GE359.out)|exact HB.out));rintro e w50 ⟨rfl,hi,hb,hk⟩;refine⟨_,rfl,?_⟩;replace HO_7:=A0_ (sM (Kd.S_keep (IsS82.apartS (show IsS82 w0 _ g s0_0 x1001_3 from by repeat(first|(with_reducible first|exact HI0.out|apply IsS82.alloc|apply IsS82.drewN|apply IsS82.drew|apply IsS82.set_1|refine IsS82.far ?_ NB0_349.out _|refine IsS82.far ?_ NB0_359.out _)|exact HI0.out)) (zS_ HO_7) (by decide)) hk (fun _ h=>h.2)) (fun _ h=>h.1));replace HO_360000:=A0_ (Kd.Q_mono (Kd.Q_keep (IsS82.apartQ (show IsS82 w0 _ g s0_0 x1001_3 from by repeat(first|(with_reducible first|exact HI0.out|apply IsS82.alloc|apply IsS82.drewN|apply IsS82.drew|apply IsS82.set_1|refine IsS82.far ?_ NB0_349.out _|refine IsS82.far ?_ NB0_359.out _)|exact HI0.out)) (zQ_ HO_360000) (by decide)) hk (fun _ h=>h.2)) (fun _ h=>h.1));replace HO_360001:=A0_ (rM (Kd.R_keep (IsS82.apart (show IsS82 w0 _ g s0_0 x1001_3 from by repeat(first|(with_reducible first|exact HI0.out|apply IsS82.alloc|apply IsS82.drewN|apply IsS82.drew|apply IsS82.set_1|refine IsS82.far ?_ NB0_349.out _|refine IsS82.far ?_ NB0_359.out _)|exact HI0.out)) (zR_ HO_360001) (by decide)) hk (fun _ h=>h.2)) (fun _ h=>h.1));replace BK349:=A0_ (KeepBut.blk hk (g':=gb349) (o := .cells #[.slice none 0 0,.slice none 0 0] 25 (0,0)) (zK_ BK349) NB349_0.out (by simp));replace BK359:=A0_ (KeepBut.blk hk (g':=gb359) (o := .cells #[u360000,.slice Ao49 x360001_17.length co49] 25 (0,0)) (zK_ BK359) NB359_0.out (by simp));replace HK:=A0_ (KeepBut.trans (by repeat(first|(with_reducible first|exact HK.out|apply KeepBut.set_|apply keep_drewN|apply keep_drew|apply keep_alloc|refine keep_far ?_ GW349.out _|refine keep_far ?_ GW359.out _)|exact HK.out)) hk (.inl rfl));replace HB:=A0_ (hb);replace HI0:=A0_ (hi);(try clear hb)))
        have pi388:(0≤(t386:Int))=True:=eq_true (zd)
        have qi388:(t386<(y383.length:Int))=True:=eq_true (zd)
        replace HO_7:=A0_ (sD HO_7.out)
        replace HO_360000:=A0_ (Kd.Q_drew HO_360000.out)
        replace HO_360001:=A0_ (rD HO_360001.out)
        replace BK349:=A0_ (kD BK349.out)
        replace BK359:=A0_ (kD BK359.out)
        replace HI0:=A0_ (IsS82.drew HI0.out)
        replace HK:=A0_ (keep_drew HK.out)
        replace HB:=A0_ (bD HB.out)
        obtain⟨Aq_,cq_,eq_,_⟩:=Kd.Q_slice HO_360000.out
        subst eq_
        refine start_ (n:=12) (S:=fun w'=>w'.cell? ⟨gb359,0,none⟩=some (.slice Aq_ x360000_17.length cq_)∧w'.cell? ⟨gb359,1,none⟩=some (.slice Ao49 x360001_17.length co49)) (ds := []) (bs 12 0) (by kernel_rfl) rfl rfl ⟨(kC BK359.out 0).trans rfl,(kC BK359.out 1).trans rfl⟩ (fun hHeld => ?_);refine with_tabW spec_l92Cover.tab13 spec_l92Cover.bits13 (fun HT_ HW_ => ?_)
        generalize w50.drew=w51 at HO_7 HO_360000 HO_360001 BK349 BK359 HI0 HK HB hHeld ⊢
        refine zP 1 (some 48) (bs 12 2) ?_
        refine zP 2 (some 49) (bs 12 6) ?_
        refine zP 4 (some 51) (bs 12 22) ?_
        refine zP 8 (some 55) (bs 12 278) ?_
        refine zT 0 (some 47) (bs 12 279) hHeld ?_
        refine join_ (σ:=Value×Addr) 2 (bs 12 1023) (fun s_ => [(50,s_.1),(52,.int .i64 t386),(54,.int .i64 (rd y383 t386)),(53,.pointer (some (s_.2.add (t386).toNat)))]) (fun s_ w'=>(w'.cell? ⟨gb359,0,none⟩=some (.slice Aq_ x360000_17.length cq_)∧w'.cell? ⟨gb359,1,none⟩=some (.slice Ao49 x360001_17.length co49))∧(Kd.R (Kd.int .i64) 3 w' w.heap.size (fun k_=>some k_≠(.slice Aq_ x360000_17.length cq_:Value).ownBlock∧some k_≠(.slice Ao49 x360001_17.length co49:Value).ownBlock) s_.1 y383)∧(Kd.Q (Kd.int .i64) 3 w' w.heap.size (fun k_=>some k_≠(s_.1:Value).ownBlock∧some k_≠(.slice Ao49 x360001_17.length co49:Value).ownBlock) (.slice Aq_ x360000_17.length cq_) x360000_17)∧(Kd.R (Kd.int .i64) 3 w' w.heap.size (fun k_=>some k_≠(s_.1:Value).ownBlock∧some k_≠(.slice Aq_ x360000_17.length cq_:Value).ownBlock) (.slice Ao49 x360001_17.length co49) x360001_17)∧(Kd.S (Kd.slice 3 (Kd.int .i64)) 23 w' w.heap.size (fun k_=>some k_≠(s_.1:Value).ownBlock∧some k_≠(.slice Aq_ x360000_17.length cq_:Value).ownBlock∧some k_≠(.slice Ao49 x360001_17.length co49:Value).ownBlock) u7 x7_3)∧(∃ c_,(s_.1:Value) = .slice (some s_.2) y383.length c_)∧(w'.heap[gb349]? = some (.cells #[.slice Aq_ x360000_17.length cq_,.slice Ao49 x360001_17.length co49] 25 (0,0)))∧(w'.heap[gb359]? = some (.cells #[.slice Aq_ x360000_17.length cq_,.slice Ao49 x360001_17.length co49] 25 (0,0)))∧(IsS82 w0 w' g s0_0 t387)∧(KeepBut w w' g none)∧(Below w0.heap.size w0 w')) ?_ ?_
        rotate_left
        ·intro hJ3_5_7_9
         refine join_ (σ:=Value×Addr) 3 (bs 12 511) (fun s_ => [(50,s_.1),(52,.int .i64 t386),(54,.int .i64 (rd y383 t386)),(53,.pointer (some (s_.2.add (t386).toNat)))]) (fun s_ w'=>(w'.cell? ⟨gb359,0,none⟩=some (.slice Aq_ x360000_17.length cq_)∧w'.cell? ⟨gb359,1,none⟩=some (.slice Ao49 x360001_17.length co49))∧(Kd.R (Kd.int .i64) 3 w' w.heap.size (fun k_=>some k_≠(.slice Aq_ x360000_17.length cq_:Value).ownBlock∧some k_≠(.slice Ao49 x360001_17.length co49:Value).ownBlock) s_.1 y383)∧(Kd.Q (Kd.int .i64) 3 w' w.heap.size (fun k_=>some k_≠(s_.1:Value).ownBlock∧some k_≠(.slice Ao49 x360001_17.length co49:Value).ownBlock) (.slice Aq_ x360000_17.length cq_) x360000_17)∧(Kd.R (Kd.int .i64) 3 w' w.heap.size (fun k_=>some k_≠(s_.1:Value).ownBlock∧some k_≠(.slice Aq_ x360000_17.length cq_:Value).ownBlock) (.slice Ao49 x360001_17.length co49) x360001_17)∧(Kd.S (Kd.slice 3 (Kd.int .i64)) 23 w' w.heap.size (fun k_=>some k_≠(s_.1:Value).ownBlock∧some k_≠(.slice Aq_ x360000_17.length cq_:Value).ownBlock∧some k_≠(.slice Ao49 x360001_17.length co49:Value).ownBlock) u7 x7_3)∧(∃ c_,(s_.1:Value) = .slice (some s_.2) y383.length c_)∧(w'.heap[gb349]? = some (.cells #[.slice none 0 0,.slice none 0 0] 25 (0,0)))∧(w'.heap[gb359]? = some (.cells #[.slice Aq_ x360000_17.length cq_,.slice Ao49 x360001_17.length co49] 25 (0,0)))∧(IsS82 w0 w' g s0_0 t387)∧(KeepBut w w' g none)∧(Below w0.heap.size w0 w')) ?_ ?_
         rotate_left
         ·intro hJ3_5_7
          refine join_ (σ:=Value×Addr) 3 (bs 12 895) (fun s_ => [(50,s_.1),(52,.int .i64 t386),(53,.pointer (some (s_.2.add (t386).toNat)))]) (fun s_ w'=>(w'.cell? ⟨gb359,0,none⟩=some (.slice Aq_ x360000_17.length cq_)∧w'.cell? ⟨gb359,1,none⟩=some (.slice Ao49 x360001_17.length co49))∧(Kd.R (Kd.int .i64) 3 w' w.heap.size (fun k_=>some k_≠(.slice Aq_ x360000_17.length cq_:Value).ownBlock∧some k_≠(.slice Ao49 x360001_17.length co49:Value).ownBlock) s_.1 y383)∧(Kd.Q (Kd.int .i64) 3 w' w.heap.size (fun k_=>some k_≠(s_.1:Value).ownBlock∧some k_≠(.slice Ao49 x360001_17.length co49:Value).ownBlock) (.slice Aq_ x360000_17.length cq_) x360000_17)∧(Kd.R (Kd.int .i64) 3 w' w.heap.size (fun k_=>some k_≠(s_.1:Value).ownBlock∧some k_≠(.slice Aq_ x360000_17.length cq_:Value).ownBlock) (.slice Ao49 x360001_17.length co49) x360001_17)∧(Kd.S (Kd.slice 3 (Kd.int .i64)) 23 w' w.heap.size (fun k_=>some k_≠(s_.1:Value).ownBlock∧some k_≠(.slice Aq_ x360000_17.length cq_:Value).ownBlock∧some k_≠(.slice Ao49 x360001_17.length co49:Value).ownBlock) u7 x7_3)∧(∃ c_,(s_.1:Value) = .slice (some s_.2) y383.length c_)∧(w'.heap[gb349]? = some (.cells #[.slice Aq_ x360000_17.length cq_,.slice Ao49 x360001_17.length co49] 25 (0,0)))∧(w'.heap[gb359]? = some (.cells #[.slice Aq_ x360000_17.length cq_,.slice Ao49 x360001_17.length co49] 25 (0,0)))∧(IsS82 w0 w' g s0_0 t387)∧(KeepBut w w' g none)∧(Below w0.heap.size w0 w')) ?_ ?_
          rotate_left
          ·intro hJ3_5_9
           refine join_ (σ:=Value×Addr) 4 (bs 12 383) (fun s_ => [(50,s_.1),(52,.int .i64 t386),(53,.pointer (some (s_.2.add (t386).toNat)))]) (fun s_ w'=>(w'.cell? ⟨gb359,0,none⟩=some (.slice Aq_ x360000_17.length cq_)∧w'.cell? ⟨gb359,1,none⟩=some (.slice Ao49 x360001_17.length co49))∧(Kd.R (Kd.int .i64) 3 w' w.heap.size (fun k_=>some k_≠(.slice Aq_ x360000_17.length cq_:Value).ownBlock∧some k_≠(.slice Ao49 x360001_17.length co49:Value).ownBlock) s_.1 y383)∧(Kd.Q (Kd.int .i64) 3 w' w.heap.size (fun k_=>some k_≠(s_.1:Value).ownBlock∧some k_≠(.slice Ao49 x360001_17.length co49:Value).ownBlock) (.slice Aq_ x360000_17.length cq_) x360000_17)∧(Kd.R (Kd.int .i64) 3 w' w.heap.size (fun k_=>some k_≠(s_.1:Value).ownBlock∧some k_≠(.slice Aq_ x360000_17.length cq_:Value).ownBlock) (.slice Ao49 x360001_17.length co49) x360001_17)∧(Kd.S (Kd.slice 3 (Kd.int .i64)) 23 w' w.heap.size (fun k_=>some k_≠(s_.1:Value).ownBlock∧some k_≠(.slice Aq_ x360000_17.length cq_:Value).ownBlock∧some k_≠(.slice Ao49 x360001_17.length co49:Value).ownBlock) u7 x7_3)∧(∃ c_,(s_.1:Value) = .slice (some s_.2) y383.length c_)∧(w'.heap[gb349]? = some (.cells #[.slice none 0 0,.slice none 0 0] 25 (0,0)))∧(w'.heap[gb359]? = some (.cells #[.slice Aq_ x360000_17.length cq_,.slice Ao49 x360001_17.length co49] 25 (0,0)))∧(IsS82 w0 w' g s0_0 t387)∧(KeepBut w w' g none)∧(Below w0.heap.size w0 w')) ?_ ?_
           rotate_left
           ·intro hJ3_5
            refine join_ (σ:=Unit) 5 (bs 12 823) (fun s_ => [(52,.int .i64 t386)]) (fun s_ w'=>(w'.cell? ⟨gb359,0,none⟩=some (.slice Aq_ x360000_17.length cq_)∧w'.cell? ⟨gb359,1,none⟩=some (.slice Ao49 x360001_17.length co49))∧(Kd.Q (Kd.int .i64) 3 w' w.heap.size (fun k_=>some k_≠(.slice Ao49 x360001_17.length co49:Value).ownBlock) (.slice Aq_ x360000_17.length cq_) x360000_17)∧(Kd.R (Kd.int .i64) 3 w' w.heap.size (fun k_=>some k_≠(.slice Aq_ x360000_17.length cq_:Value).ownBlock) (.slice Ao49 x360001_17.length co49) x360001_17)∧(Kd.S (Kd.slice 3 (Kd.int .i64)) 23 w' w.heap.size (fun k_=>some k_≠(.slice Aq_ x360000_17.length cq_:Value).ownBlock∧some k_≠(.slice Ao49 x360001_17.length co49:Value).ownBlock) u7 x7_3)∧(w'.heap[gb349]? = some (.cells #[.slice Aq_ x360000_17.length cq_,.slice Ao49 x360001_17.length co49] 25 (0,0)))∧(w'.heap[gb359]? = some (.cells #[.slice Aq_ x360000_17.length cq_,.slice Ao49 x360001_17.length co49] 25 (0,0)))∧(IsS82 w0 w' g s0_0 t387)∧(KeepBut w w' g none)∧(Below w0.heap.size w0 w')) ?_ ?_
            rotate_left
            ·intro hJ5_9
             refine join_ (σ:=Value×Addr) 6 (bs 12 287) (fun s_ => [(50,s_.1)]) (fun s_ w'=>(w'.cell? ⟨gb359,0,none⟩=some (.slice Aq_ x360000_17.length cq_)∧w'.cell? ⟨gb359,1,none⟩=some (.slice Ao49 x360001_17.length co49))∧(Kd.R (Kd.int .i64) 3 w' w.heap.size (fun k_=>some k_≠(.slice Aq_ x360000_17.length cq_:Value).ownBlock∧some k_≠(.slice Ao49 x360001_17.length co49:Value).ownBlock) s_.1 y383)∧(Kd.Q (Kd.int .i64) 3 w' w.heap.size (fun k_=>some k_≠(s_.1:Value).ownBlock∧some k_≠(.slice Ao49 x360001_17.length co49:Value).ownBlock) (.slice Aq_ x360000_17.length cq_) x360000_17)∧(Kd.R (Kd.int .i64) 3 w' w.heap.size (fun k_=>some k_≠(s_.1:Value).ownBlock∧some k_≠(.slice Aq_ x360000_17.length cq_:Value).ownBlock) (.slice Ao49 x360001_17.length co49) x360001_17)∧(Kd.S (Kd.slice 3 (Kd.int .i64)) 23 w' w.heap.size (fun k_=>some k_≠(s_.1:Value).ownBlock∧some k_≠(.slice Aq_ x360000_17.length cq_:Value).ownBlock∧some k_≠(.slice Ao49 x360001_17.length co49:Value).ownBlock) u7 x7_3)∧(∃ c_,(s_.1:Value) = .slice (some s_.2) y383.length c_)∧(w'.heap[gb349]? = some (.cells #[.slice none 0 0,.slice none 0 0] 25 (0,0)))∧(w'.heap[gb359]? = some (.cells #[.slice Aq_ x360000_17.length cq_,.slice Ao49 x360001_17.length co49] 25 (0,0)))∧(IsS82 w0 w' g s0_0 t382)∧(KeepBut w w' g none)∧(Below w0.heap.size w0 w')) ?_ ?_
             rotate_left
             ·intro hJ3
              refine join_ (σ:=Unit) 6 (bs 12 311) (fun s_ => [(52,.int .i64 t386)]) (fun s_ w'=>(w'.cell? ⟨gb359,0,none⟩=some (.slice Aq_ x360000_17.length cq_)∧w'.cell? ⟨gb359,1,none⟩=some (.slice Ao49 x360001_17.length co49))∧(Kd.Q (Kd.int .i64) 3 w' w.heap.size (fun k_=>some k_≠(.slice Ao49 x360001_17.length co49:Value).ownBlock) (.slice Aq_ x360000_17.length cq_) x360000_17)∧(Kd.R (Kd.int .i64) 3 w' w.heap.size (fun k_=>some k_≠(.slice Aq_ x360000_17.length cq_:Value).ownBlock) (.slice Ao49 x360001_17.length co49) x360001_17)∧(Kd.S (Kd.slice 3 (Kd.int .i64)) 23 w' w.heap.size (fun k_=>some k_≠(.slice Aq_ x360000_17.length cq_:Value).ownBlock∧some k_≠(.slice Ao49 x360001_17.length co49:Value).ownBlock) u7 x7_3)∧(w'.heap[gb349]? = some (.cells #[.slice none 0 0,.slice none 0 0] 25 (0,0)))∧(w'.heap[gb359]? = some (.cells #[.slice Aq_ x360000_17.length cq_,.slice Ao49 x360001_17.length co49] 25 (0,0)))∧(IsS82 w0 w' g s0_0 t387)∧(KeepBut w w' g none)∧(Below w0.heap.size w0 w')) ?_ ?_
              rotate_left
              ·intro hJ5
               refine two_ (i:=3) (j:=5) (Ni:=some 50) (Nj:=some 52) (bs 12 287) (bs 12 311) rfl rfl rfl rfl (two_of HT_.out (by kernel_rfl)) (by decide) (by decide) (fun K hK => ?_) (fun K hK => ?_)
               ·skip
                refine Kd.R_lit_step (Kd.int .i64) _ 3 ?hg (N:=50) ?hd (xs:=([0,7,wrap64 (x5_17+1)]:List Int)) (inner := [.int .i64 0,.int .i64 7,.int .i64 (wrap64 (x5_17+1))]) (ok:=fun _=>True) (okp:=fun _=>True) ?hr ?hp (fun _ hk=>hk) trivial (Below.refl _ _) (Nat.le_refl _) (by simp) ?_;(case hd=>rfl);(case hg=>rfl);(case hr=>first|(go_simp;done)|(go_simp;rfl));(case hp=>exact(Reps.one (show Kd.M (Kd.int .i64) _ _ _ 0 [.int .i64 0] from rfl) (Reps.one (show Kd.M (Kd.int .i64) _ _ _ 7 [.int .i64 7] from rfl) (Reps.one (show Kd.M (Kd.int .i64) _ _ _ (wrap64 (x5_17+1)) [.int .i64 (wrap64 (x5_17+1))] from rfl) (Reps.none _ _)))))
                intro v384 w52 ho53 hb hg_ hnew_
                clear hg_ hnew_
                (first|rw [← Ny383.out] at ho53|(simp only [Int.reduceToNat] at ho53;rw [← Ny383.out] at ho53))
                replace HO_7:=A0_ (Kd.S_elder' (zS_ HO_7) (Kd.R_base ho53) hb)
                have HO385:=A0_ (rL (Kd.R_new' (Kd.R_new' ho53 (Kd.Q_lt (zQ_ HO_360000))) (rX (zR_ HO_360001))) (keep_size (w:=w) (g:=g) (row:=none) (by repeat(first|(with_reducible first|exact HK.out|apply KeepBut.set_|apply keep_drewN|apply keep_drew|apply keep_alloc|refine keep_far ?_ GW349.out _|refine keep_far ?_ GW359.out _)|exact HK.out))))
                replace HO_360000:=A0_ (Kd.Q_elder' (zQ_ HO_360000) (Kd.R_base ho53) hb)
                replace HO_360001:=A0_ (Kd.R_elder' (zR_ HO_360001) (Kd.R_base ho53) hb)
                replace BK349:=zK BK349 hb;replace BK359:=zK BK359 hb
                replace HK:=A0_ (KeepBut.trans (by repeat(first|(with_reducible first|exact HK.out|apply KeepBut.set_|apply keep_drewN|apply keep_drew|apply keep_alloc|refine keep_far ?_ GW349.out _|refine keep_far ?_ GW359.out _)|exact HK.out)) (KeepBut.of_below hb g none) (.inl rfl))
                replace HB:=A0_ (bT (by repeat(first|(with_reducible first|exact HB.out|apply bA|apply bN|apply bD|refine bS ?_ (IsS82.ge HI0.out)|refine bS ?_ GE349.out|refine bS ?_ GE359.out)|exact HB.out)) hb)
                replace HI0:=A0_ (IsS82.below (by repeat(first|(with_reducible first|exact HI0.out|apply IsS82.alloc|apply IsS82.drewN|apply IsS82.drew|apply IsS82.set_1|refine IsS82.far ?_ NB0_349.out _|refine IsS82.far ?_ NB0_359.out _)|exact HI0.out)) hb)
                clear hb ho53;obtain⟨Ao54,co54,eo54⟩:=rS HO385.out;subst eo54
                obtain⟨ado54,fo54,_⟩:=tI (rR HO385.out).2.2 0 (by decide) (by rw [Ny383.out];simp)
                cases fo54
                refine hK.out _ _ ⟨(kC BK359.out 0).trans rfl,(kC BK359.out 1).trans rfl⟩ (fun hHeld => ?_)
                clear hK K
                refine norm_ (a' := ?_) ?_ ?_
                rotate_left
                ·show Act.put _ (some 50) _=_
                 simp only [Act.put,List.setIfInBounds_toArray,List.set_cons_zero,List.set_cons_succ,i64_w,i32_w]
                 rfl
                exact norm_ zA (hJ3 (.slice (some ado54) y383.length co54,ado54) _ ⟨hHeld,(zmR HO385 (fun _ hk=>⟨hk.1.2,hk.2⟩)),(zmQ HO_360000 (fun _ hk=>⟨hk.2,hk.1⟩)),(zmR HO_360001 (fun _ hk=>⟨hk.2,hk.1⟩)),(zmS HO_7 (fun _ hk=>⟨hk.2,⟨hk.1.1,hk.1.2⟩⟩)),⟨_,rfl⟩,(zK_ BK349),(zK_ BK359),(by repeat(first|(with_reducible first|exact HI0.out|apply IsS82.alloc|apply IsS82.drewN|apply IsS82.drew|apply IsS82.set_1|refine IsS82.far ?_ NB0_349.out _|refine IsS82.far ?_ NB0_359.out _)|exact HI0.out)),(by repeat(first|(with_reducible first|exact HK.out|apply KeepBut.set_|apply keep_drewN|apply keep_drew|apply keep_alloc|refine keep_far ?_ GW349.out _|refine keep_far ?_ GW359.out _)|exact HK.out)),(by repeat(first|(with_reducible first|exact HB.out|apply bA|apply bN|apply bD|refine bS ?_ (IsS82.ge HI0.out)|refine bS ?_ GE349.out|refine bS ?_ GE359.out)|exact HB.out))⟩)
               skip
               refine goes_ Try.func74 (by kernel_rfl) rfl #[.pointer (some ⟨g,0,none⟩),.int .i64 3] (by rfl) rfl rfl (by(try simp only [List.map_toArray,List.map_cons,List.map_nil]);first|done|rfl|(simp only [List.length_drop,List.length_take];rfl)) ?_
               with_reducible refine(spec_l6Rd_pick.calls k3 g s0_0 t382 3 t386 t387 w0 _ ?side1 ?side2 A43.out).mono ?_
               (case side1=>repeat(first|(with_reducible first|exact HI0.out|apply IsS82.alloc|apply IsS82.drewN|apply IsS82.drew|apply IsS82.set_1|refine IsS82.far ?_ NB0_349.out _|refine IsS82.far ?_ NB0_359.out _)|exact HI0.out))
               (case side2=>repeat(first|(with_reducible first|exact HB.out|apply bA|apply bN|apply bD|refine bS ?_ (IsS82.ge HI0.out)|refine bS ?_ GE349.out|refine bS ?_ GE359.out)|exact HB.out))
               rintro e w52 ⟨rfl,hi,hb,hk⟩
               refine⟨_,rfl,?_⟩
               replace HO_7:=A0_ (sM (Kd.S_keep (IsS82.apartS (show IsS82 w0 _ g s0_0 t382 from by repeat(first|(with_reducible first|exact HI0.out|apply IsS82.alloc|apply IsS82.drewN|apply IsS82.drew|apply IsS82.set_1|refine IsS82.far ?_ NB0_349.out _|refine IsS82.far ?_ NB0_359.out _)|exact HI0.out)) (zS_ HO_7) (by decide)) hk (fun _ h=>h.2)) (fun _ h=>h.1))
               replace HO_360000:=A0_ (Kd.Q_mono (Kd.Q_keep (IsS82.apartQ (show IsS82 w0 _ g s0_0 t382 from by repeat(first|(with_reducible first|exact HI0.out|apply IsS82.alloc|apply IsS82.drewN|apply IsS82.drew|apply IsS82.set_1|refine IsS82.far ?_ NB0_349.out _|refine IsS82.far ?_ NB0_359.out _)|exact HI0.out)) (zQ_ HO_360000) (by decide)) hk (fun _ h=>h.2)) (fun _ h=>h.1))
               replace HO_360001:=A0_ (rM (Kd.R_keep (IsS82.apart (show IsS82 w0 _ g s0_0 t382 from by repeat(first|(with_reducible first|exact HI0.out|apply IsS82.alloc|apply IsS82.drewN|apply IsS82.drew|apply IsS82.set_1|refine IsS82.far ?_ NB0_349.out _|refine IsS82.far ?_ NB0_359.out _)|exact HI0.out)) (zR_ HO_360001) (by decide)) hk (fun _ h=>h.2)) (fun _ h=>h.1))
               replace BK349:=A0_ (KeepBut.blk hk (g':=gb349) (o := .cells #[.slice none 0 0,.slice none 0 0] 25 (0,0)) (zK_ BK349) NB349_0.out (by simp))
               replace BK359:=A0_ (KeepBut.blk hk (g':=gb359) (o := .cells #[.slice Aq_ x360000_17.length cq_,.slice Ao49 x360001_17.length co49] 25 (0,0)) (zK_ BK359) NB359_0.out (by simp))
               replace HK:=A0_ (KeepBut.trans (by repeat(first|(with_reducible first|exact HK.out|apply KeepBut.set_|apply keep_drewN|apply keep_drew|apply keep_alloc|refine keep_far ?_ GW349.out _|refine keep_far ?_ GW359.out _)|exact HK.out)) hk (.inl rfl))
               replace HB:=A0_ (hb)
               replace HI0:=A0_ (hi)
               (try clear hb);(try clear hb2);(try clear hk);(try clear hi)
               refine hK.out _ _ ⟨(kC BK359.out 0).trans rfl,(kC BK359.out 1).trans rfl⟩ (fun hHeld => ?_)
               clear hK K
               refine norm_ (a' := ?_) ?_ ?_
               rotate_left
               ·show Act.put _ (some 52) _=_
                simp only [Act.put,List.setIfInBounds_toArray,List.set_cons_zero,List.set_cons_succ,i64_w,i32_w]
                rfl
               exact norm_ zA (hJ5 () _ ⟨hHeld,(zQ_ HO_360000),(zR_ HO_360001),(zS_ HO_7),(zK_ BK349),(zK_ BK359),(by repeat(first|(with_reducible first|exact HI0.out|apply IsS82.alloc|apply IsS82.drewN|apply IsS82.drew|apply IsS82.set_1|refine IsS82.far ?_ NB0_349.out _|refine IsS82.far ?_ NB0_359.out _)|exact HI0.out)),(by repeat(first|(with_reducible first|exact HK.out|apply KeepBut.set_|apply keep_drewN|apply keep_drew|apply keep_alloc|refine keep_far ?_ GW349.out _|refine keep_far ?_ GW359.out _)|exact HK.out)),(by repeat(first|(with_reducible first|exact HB.out|apply bA|apply bN|apply bD|refine bS ?_ (IsS82.ge HI0.out)|refine bS ?_ GE349.out|refine bS ?_ GE359.out)|exact HB.out))⟩)
              skip
              rintro _ w53 ⟨hS_,h0_,h1_,h2_,h3_,h4_,h5_,h6_,h7_⟩
              replace HO_360000:Aside0 (Kd.Q (Kd.int .i64) 3 w53 w.heap.size (fun k_=>some k_≠(.slice Ao49 x360001_17.length co49:Value).ownBlock) (.slice Aq_ x360000_17.length cq_) x360000_17):=⟨h0_⟩
              replace HO_360001:Aside0 (Kd.R (Kd.int .i64) 3 w53 w.heap.size (fun k_=>some k_≠(.slice Aq_ x360000_17.length cq_:Value).ownBlock) (.slice Ao49 x360001_17.length co49) x360001_17):=⟨h1_⟩
              replace HO_7:Aside0 (Kd.S (Kd.slice 3 (Kd.int .i64)) 23 w53 w.heap.size (fun k_=>some k_≠(.slice Aq_ x360000_17.length cq_:Value).ownBlock∧some k_≠(.slice Ao49 x360001_17.length co49:Value).ownBlock) u7 x7_3):=⟨h2_⟩
              replace BK349:Aside0 (w53.heap[gb349]? = some (.cells #[.slice none 0 0,.slice none 0 0] 25 (0,0))):=⟨h3_⟩
              replace BK359:Aside0 (w53.heap[gb359]? = some (.cells #[.slice Aq_ x360000_17.length cq_,.slice Ao49 x360001_17.length co49] 25 (0,0))):=⟨h4_⟩
              replace HI0:Aside0 (IsS82 w0 w53 g s0_0 t387):=⟨h5_⟩
              replace HK:Aside0 (KeepBut w w53 g none):=⟨h6_⟩
              replace HB:Aside0 (Below w0.heap.size w0 w53):=⟨h7_⟩
              clear h0_ h1_ h2_ h3_ h4_ h5_ h6_ h7_
              have hHeld:w53.cell? ⟨gb359,0,none⟩=some (.slice Aq_ x360000_17.length cq_)∧w53.cell? ⟨gb359,1,none⟩=some (.slice Ao49 x360001_17.length co49):=hS_
              refine norm_ (a' := ?_) ?_ ?_
              rotate_left
              ·simp only [putAll,Act.put,List.setIfInBounds_toArray,List.set_cons_zero,List.set_cons_succ]
               rfl
              refine two_ (i:=3) (j:=9) (Ni:=some 50) (Nj:=none) (bs 12 319) (bs 12 823) rfl rfl rfl rfl (two_of HT_.out (by kernel_rfl)) (by decide) (by decide) (fun K hK => ?_) (fun K hK => ?_)
              ·skip
               refine Kd.R_lit_step (Kd.int .i64) _ 3 ?hg (N:=50) ?hd (xs:=([0,7,wrap64 (x5_17+1)]:List Int)) (inner := [.int .i64 0,.int .i64 7,.int .i64 (wrap64 (x5_17+1))]) (ok:=fun _=>True) (okp:=fun _=>True) ?hr ?hp (fun _ hk=>hk) trivial (Below.refl _ _) (Nat.le_refl _) (by simp) ?_;(case hd=>rfl);(case hg=>rfl);(case hr=>first|(go_simp;done)|(go_simp;rfl));(case hp=>exact(Reps.one (show Kd.M (Kd.int .i64) _ _ _ 0 [.int .i64 0] from rfl) (Reps.one (show Kd.M (Kd.int .i64) _ _ _ 7 [.int .i64 7] from rfl) (Reps.one (show Kd.M (Kd.int .i64) _ _ _ (wrap64 (x5_17+1)) [.int .i64 (wrap64 (x5_17+1))] from rfl) (Reps.none _ _)))))
               intro v384 w54 ho55 hb hg_ hnew_
               clear hg_ hnew_
               (first|rw [← Ny383.out] at ho55|(simp only [Int.reduceToNat] at ho55;rw [← Ny383.out] at ho55))
               replace HO_7:=A0_ (Kd.S_elder' (zS_ HO_7) (Kd.R_base ho55) hb)
               have HO385:=A0_ (rL (Kd.R_new' (Kd.R_new' ho55 (Kd.Q_lt (zQ_ HO_360000))) (rX (zR_ HO_360001))) (keep_size (w:=w) (g:=g) (row:=none) (by repeat(first|(with_reducible first|exact HK.out|apply KeepBut.set_|apply keep_drewN|apply keep_drew|apply keep_alloc|refine keep_far ?_ GW349.out _|refine keep_far ?_ GW359.out _)|exact HK.out))))
               replace HO_360000:=A0_ (Kd.Q_elder' (zQ_ HO_360000) (Kd.R_base ho55) hb)
               replace HO_360001:=A0_ (Kd.R_elder' (zR_ HO_360001) (Kd.R_base ho55) hb)
               replace BK349:=zK BK349 hb;replace BK359:=zK BK359 hb
               replace HK:=A0_ (KeepBut.trans (by repeat(first|(with_reducible first|exact HK.out|apply KeepBut.set_|apply keep_drewN|apply keep_drew|apply keep_alloc|refine keep_far ?_ GW349.out _|refine keep_far ?_ GW359.out _)|exact HK.out)) (KeepBut.of_below hb g none) (.inl rfl))
               replace HB:=A0_ (bT (by repeat(first|(with_reducible first|exact HB.out|apply bA|apply bN|apply bD|refine bS ?_ (IsS82.ge HI0.out)|refine bS ?_ GE349.out|refine bS ?_ GE359.out)|exact HB.out)) hb)
               replace HI0:=A0_ (IsS82.below (by repeat(first|(with_reducible first|exact HI0.out|apply IsS82.alloc|apply IsS82.drewN|apply IsS82.drew|apply IsS82.set_1|refine IsS82.far ?_ NB0_349.out _|refine IsS82.far ?_ NB0_359.out _)|exact HI0.out)) hb)
               clear hb ho55;obtain⟨Ao56,co56,eo56⟩:=rS HO385.out;subst eo56
               obtain⟨ado56,fo56,_⟩:=tI (rR HO385.out).2.2 0 (by decide) (by rw [Ny383.out];simp)
               cases fo56
               refine hK.out _ _ ⟨(kC BK359.out 0).trans rfl,(kC BK359.out 1).trans rfl⟩ (fun hHeld => ?_)
               clear hK K
               refine norm_ (a' := ?_) ?_ ?_
               rotate_left
               ·show Act.put _ (some 50) _=_
                simp only [Act.put,List.setIfInBounds_toArray,List.set_cons_zero,List.set_cons_succ,i64_w,i32_w]
                rfl
               refine zP 6 (some 53) (bs 12 383) ?_
               exact norm_ zA (hJ3_5 (.slice (some ado56) y383.length co56,ado56) _ ⟨hHeld,(zmR HO385 (fun _ hk=>⟨hk.1.2,hk.2⟩)),(zmQ HO_360000 (fun _ hk=>⟨hk.2,hk.1⟩)),(zmR HO_360001 (fun _ hk=>⟨hk.2,hk.1⟩)),(zmS HO_7 (fun _ hk=>⟨hk.2,⟨hk.1.1,hk.1.2⟩⟩)),⟨_,rfl⟩,(zK_ BK349),(zK_ BK359),(by repeat(first|(with_reducible first|exact HI0.out|apply IsS82.alloc|apply IsS82.drewN|apply IsS82.drew|apply IsS82.set_1|refine IsS82.far ?_ NB0_349.out _|refine IsS82.far ?_ NB0_359.out _)|exact HI0.out)),(by repeat(first|(with_reducible first|exact HK.out|apply KeepBut.set_|apply keep_drewN|apply keep_drew|apply keep_alloc|refine keep_far ?_ GW349.out _|refine keep_far ?_ GW359.out _)|exact HK.out)),(by repeat(first|(with_reducible first|exact HB.out|apply bA|apply bN|apply bD|refine bS ?_ (IsS82.ge HI0.out)|refine bS ?_ GE349.out|refine bS ?_ GE359.out)|exact HB.out))⟩)
              skip
              have hs55:w53.cell? ⟨gb349,0,none⟩=some (.slice none 0 0):=(kC BK349.out 0).trans rfl
              have hfs55:=kF BK349.out 0;have hns55_1:=NB359_349.out;have hms55_1:=NB349_359.out
              have hs56:w53.cell? ⟨gb349,1,none⟩=some (.slice none 0 0):=(kC BK349.out 1).trans rfl
              have hfs56:=kF BK349.out 1;have hns56_1:=NB359_349.out;have hms56_1:=NB349_359.out
              refine skip_ (w1 := ?_) (by rfl) rfl ?_ ?_
              rotate_left
              ·go_simp
               rfl
              refine hK.out _ _ ⟨((cell_far (p:=⟨gb349,_,none⟩) NB359_349.out _).trans (((cell_far (p:=⟨gb349,_,none⟩) NB359_349.out _).trans (hHeld.1)))),((cell_far (p:=⟨gb349,_,none⟩) NB359_349.out _).trans (((cell_far (p:=⟨gb349,_,none⟩) NB359_349.out _).trans (hHeld.2))))⟩ (fun hHeld => ?_)
              clear hK K
              exact norm_ zA (hJ5_9 () _ ⟨hHeld,(by(with_reducible repeat(first|apply Kd.Q_alloc|apply Kd.Q_drewN|apply Kd.Q_drew));exact Kd.Q_mono (Kd.Q_far (p:=⟨gb349,1,none⟩) (Kd.Q_far (p:=⟨gb349,0,none⟩) (Kd.Q_types HO_360000.out BK349.out (by decide)) (fun _ hk=>hk.2) (.slice Aq_ x360000_17.length cq_)) (fun _ hk=>hk.2) (.slice Ao49 x360001_17.length co49)) (fun _ hk=>hk.1)),(zF HO_360001 BK349 (.slice Aq_ x360000_17.length cq_) (.slice Ao49 x360001_17.length co49) 0 1),(by(with_reducible repeat(first|apply sA|apply sN|apply sD));exact sM (Kd.S_far (p:=⟨gb349,1,none⟩) (Kd.S_far (p:=⟨gb349,0,none⟩) (Kd.S_types HO_7.out BK349.out (by decide)) (fun _ hk=>hk.2) (.slice Aq_ x360000_17.length cq_)) (fun _ hk=>hk.2) (.slice Ao49 x360001_17.length co49)) (fun _ hk=>⟨hk.1.1,hk.1.2⟩)),(by(with_reducible repeat(first|refine kN ?_ _|refine kD ?_|refine kA ?_ _));refine blk_put (cs := #[.slice Aq_ x360000_17.length cq_,.slice none 0 0]) ?_ 1 _ rfl;(with_reducible repeat(first|refine kN ?_ _|refine kD ?_|refine kA ?_ _));refine blk_put (cs := #[.slice none 0 0,.slice none 0 0]) ?_ 0 _ rfl;(with_reducible repeat(first|refine kN ?_ _|refine kD ?_|refine kA ?_ _));exact BK349.out),(by(with_reducible repeat(first|refine kN ?_ _|refine kD ?_|refine kA ?_ _));refine blk_far ?_ NB359_349.out _;(with_reducible repeat(first|refine kN ?_ _|refine kD ?_|refine kA ?_ _));refine blk_far ?_ NB359_349.out _;(with_reducible repeat(first|refine kN ?_ _|refine kD ?_|refine kA ?_ _));exact BK359.out),(by repeat(first|(with_reducible first|exact HI0.out|apply IsS82.alloc|apply IsS82.drewN|apply IsS82.drew|apply IsS82.set_1|refine IsS82.far ?_ NB0_349.out _|refine IsS82.far ?_ NB0_359.out _)|exact HI0.out)),(by repeat(first|(with_reducible first|exact HK.out|apply KeepBut.set_|apply keep_drewN|apply keep_drew|apply keep_alloc|refine keep_far ?_ GW349.out _|refine keep_far ?_ GW359.out _)|exact HK.out)),(by repeat(first|(with_reducible first|exact HB.out|apply bA|apply bN|apply bD|refine bS ?_ (IsS82.ge HI0.out)|refine bS ?_ GE349.out|refine bS ?_ GE359.out)|exact HB.out))⟩)
             skip
             rintro⟨v384,adz_v384⟩ w55 ⟨hS_,h0_,h1_,h2_,h3_,h4_,h5_,h6_,h7_,h8_,h9_⟩
             have HO385:Aside0 (Kd.R (Kd.int .i64) 3 w55 w.heap.size (fun k_=>some k_≠(.slice Aq_ x360000_17.length cq_:Value).ownBlock∧some k_≠(.slice Ao49 x360001_17.length co49:Value).ownBlock) v384 y383):=⟨h0_⟩
             replace HO_360000:Aside0 (Kd.Q (Kd.int .i64) 3 w55 w.heap.size (fun k_=>some k_≠(v384:Value).ownBlock∧some k_≠(.slice Ao49 x360001_17.length co49:Value).ownBlock) (.slice Aq_ x360000_17.length cq_) x360000_17):=⟨h1_⟩
             replace HO_360001:Aside0 (Kd.R (Kd.int .i64) 3 w55 w.heap.size (fun k_=>some k_≠(v384:Value).ownBlock∧some k_≠(.slice Aq_ x360000_17.length cq_:Value).ownBlock) (.slice Ao49 x360001_17.length co49) x360001_17):=⟨h2_⟩
             replace HO_7:Aside0 (Kd.S (Kd.slice 3 (Kd.int .i64)) 23 w55 w.heap.size (fun k_=>some k_≠(v384:Value).ownBlock∧some k_≠(.slice Aq_ x360000_17.length cq_:Value).ownBlock∧some k_≠(.slice Ao49 x360001_17.length co49:Value).ownBlock) u7 x7_3):=⟨h3_⟩
             have HA_HO385:Aside0 (∃ c_,(v384:Value) = .slice (some adz_v384) y383.length c_):=⟨h4_⟩
             replace BK349:Aside0 (w55.heap[gb349]? = some (.cells #[.slice none 0 0,.slice none 0 0] 25 (0,0))):=⟨h5_⟩
             replace BK359:Aside0 (w55.heap[gb359]? = some (.cells #[.slice Aq_ x360000_17.length cq_,.slice Ao49 x360001_17.length co49] 25 (0,0))):=⟨h6_⟩
             replace HI0:Aside0 (IsS82 w0 w55 g s0_0 t382):=⟨h7_⟩
             replace HK:Aside0 (KeepBut w w55 g none):=⟨h8_⟩
             replace HB:Aside0 (Below w0.heap.size w0 w55):=⟨h9_⟩
             clear h0_ h1_ h2_ h3_ h4_ h5_ h6_ h7_ h8_ h9_
             have hHeld:w55.cell? ⟨gb359,0,none⟩=some (.slice Aq_ x360000_17.length cq_)∧w55.cell? ⟨gb359,1,none⟩=some (.slice Ao49 x360001_17.length co49):=hS_
             obtain⟨co56,eo56⟩:=HA_HO385.out;clear HA_HO385;subst eo56
             refine norm_ (a' := ?_) ?_ ?_
             rotate_left
             ·simp only [putAll,Act.put,List.setIfInBounds_toArray,List.set_cons_zero,List.set_cons_succ]
              rfl
             refine one_ (i:=5) (N:=some 52) (bs 12 319) rfl rfl (one_of HT_.out (by kernel_rfl)) (by decide) (fun K hK => ?_)
             refine goes_ Try.func74 (by kernel_rfl) rfl #[.pointer (some ⟨g,0,none⟩),.int .i64 3] (by rfl) rfl rfl (by(try simp only [List.map_toArray,List.map_cons,List.map_nil]);first|done|rfl|(simp only [List.length_drop,List.length_take];rfl)) ?_
             with_reducible refine(spec_l6Rd_pick.calls k3 g s0_0 t382 3 t386 t387 w0 _ ?side1 ?side2 A43.out).mono ?_
             (case side1=>repeat(first|(with_reducible first|exact HI0.out|apply IsS82.alloc|apply IsS82.drewN|apply IsS82.drew|apply IsS82.set_1|refine IsS82.far ?_ NB0_349.out _|refine IsS82.far ?_ NB0_359.out _)|exact HI0.out))
             (case side2=>repeat(first|(with_reducible first|exact HB.out|apply bA|apply bN|apply bD|refine bS ?_ (IsS82.ge HI0.out)|refine bS ?_ GE349.out|refine bS ?_ GE359.out)|exact HB.out))
             rintro e w57 ⟨rfl,hi,hb,hk⟩
             refine⟨_,rfl,?_⟩
             replace HO_7:=A0_ (sM (Kd.S_keep (IsS82.apartS (show IsS82 w0 _ g s0_0 t382 from by repeat(first|(with_reducible first|exact HI0.out|apply IsS82.alloc|apply IsS82.drewN|apply IsS82.drew|apply IsS82.set_1|refine IsS82.far ?_ NB0_349.out _|refine IsS82.far ?_ NB0_359.out _)|exact HI0.out)) (zS_ HO_7) (by decide)) hk (fun _ h=>h.2)) (fun _ h=>h.1))
             replace HO_360000:=A0_ (Kd.Q_mono (Kd.Q_keep (IsS82.apartQ (show IsS82 w0 _ g s0_0 t382 from by repeat(first|(with_reducible first|exact HI0.out|apply IsS82.alloc|apply IsS82.drewN|apply IsS82.drew|apply IsS82.set_1|refine IsS82.far ?_ NB0_349.out _|refine IsS82.far ?_ NB0_359.out _)|exact HI0.out)) (zQ_ HO_360000) (by decide)) hk (fun _ h=>h.2)) (fun _ h=>h.1))
             replace HO_360001:=A0_ (rM (Kd.R_keep (IsS82.apart (show IsS82 w0 _ g s0_0 t382 from by repeat(first|(with_reducible first|exact HI0.out|apply IsS82.alloc|apply IsS82.drewN|apply IsS82.drew|apply IsS82.set_1|refine IsS82.far ?_ NB0_349.out _|refine IsS82.far ?_ NB0_359.out _)|exact HI0.out)) (zR_ HO_360001) (by decide)) hk (fun _ h=>h.2)) (fun _ h=>h.1))
             replace BK349:=A0_ (KeepBut.blk hk (g':=gb349) (o := .cells #[.slice none 0 0,.slice none 0 0] 25 (0,0)) (zK_ BK349) NB349_0.out (by simp))
             replace BK359:=A0_ (KeepBut.blk hk (g':=gb359) (o := .cells #[.slice Aq_ x360000_17.length cq_,.slice Ao49 x360001_17.length co49] 25 (0,0)) (zK_ BK359) NB359_0.out (by simp))
             replace HO385:=A0_ (rM (Kd.R_keep (IsS82.apart (show IsS82 w0 _ g s0_0 t382 from by repeat(first|(with_reducible first|exact HI0.out|apply IsS82.alloc|apply IsS82.drewN|apply IsS82.drew|apply IsS82.set_1|refine IsS82.far ?_ NB0_349.out _|refine IsS82.far ?_ NB0_359.out _)|exact HI0.out)) (zR_ HO385) (by decide)) hk (fun _ h=>h.2)) (fun _ h=>h.1))
             replace HK:=A0_ (KeepBut.trans (by repeat(first|(with_reducible first|exact HK.out|apply KeepBut.set_|apply keep_drewN|apply keep_drew|apply keep_alloc|refine keep_far ?_ GW349.out _|refine keep_far ?_ GW359.out _)|exact HK.out)) hk (.inl rfl))
             replace HB:=A0_ (hb)
             replace HI0:=A0_ (hi)
             (try clear hb);(try clear hb2);(try clear hk);(try clear hi)
             refine hK.out _ _ ⟨(kC BK359.out 0).trans rfl,(kC BK359.out 1).trans rfl⟩ (fun hHeld => ?_)
             clear hK K
             refine norm_ (a' := ?_) ?_ ?_
             rotate_left
             ·show Act.put _ (some 52) _=_
              simp only [Act.put,List.setIfInBounds_toArray,List.set_cons_zero,List.set_cons_succ,i64_w,i32_w]
              rfl
             refine zP 6 (some 53) (bs 12 383) ?_
             exact norm_ zA (hJ3_5 (.slice (some adz_v384) y383.length co56,adz_v384) _ ⟨hHeld,(zR_ HO385),(zQ_ HO_360000),(zR_ HO_360001),(zS_ HO_7),⟨_,rfl⟩,(zK_ BK349),(zK_ BK359),(by repeat(first|(with_reducible first|exact HI0.out|apply IsS82.alloc|apply IsS82.drewN|apply IsS82.drew|apply IsS82.set_1|refine IsS82.far ?_ NB0_349.out _|refine IsS82.far ?_ NB0_359.out _)|exact HI0.out)),(by repeat(first|(with_reducible first|exact HK.out|apply KeepBut.set_|apply keep_drewN|apply keep_drew|apply keep_alloc|refine keep_far ?_ GW349.out _|refine keep_far ?_ GW359.out _)|exact HK.out)),(by repeat(first|(with_reducible first|exact HB.out|apply bA|apply bN|apply bD|refine bS ?_ (IsS82.ge HI0.out)|refine bS ?_ GE349.out|refine bS ?_ GE359.out)|exact HB.out))⟩)
            skip
            rintro _ w56 ⟨hS_,h0_,h1_,h2_,h3_,h4_,h5_,h6_,h7_⟩
            replace HO_360000:Aside0 (Kd.Q (Kd.int .i64) 3 w56 w.heap.size (fun k_=>some k_≠(.slice Ao49 x360001_17.length co49:Value).ownBlock) (.slice Aq_ x360000_17.length cq_) x360000_17):=⟨h0_⟩
            replace HO_360001:Aside0 (Kd.R (Kd.int .i64) 3 w56 w.heap.size (fun k_=>some k_≠(.slice Aq_ x360000_17.length cq_:Value).ownBlock) (.slice Ao49 x360001_17.length co49) x360001_17):=⟨h1_⟩
            replace HO_7:Aside0 (Kd.S (Kd.slice 3 (Kd.int .i64)) 23 w56 w.heap.size (fun k_=>some k_≠(.slice Aq_ x360000_17.length cq_:Value).ownBlock∧some k_≠(.slice Ao49 x360001_17.length co49:Value).ownBlock) u7 x7_3):=⟨h2_⟩
            replace BK349:Aside0 (w56.heap[gb349]? = some (.cells #[.slice Aq_ x360000_17.length cq_,.slice Ao49 x360001_17.length co49] 25 (0,0))):=⟨h3_⟩
            replace BK359:Aside0 (w56.heap[gb359]? = some (.cells #[.slice Aq_ x360000_17.length cq_,.slice Ao49 x360001_17.length co49] 25 (0,0))):=⟨h4_⟩
            replace HI0:Aside0 (IsS82 w0 w56 g s0_0 t387):=⟨h5_⟩
            replace HK:Aside0 (KeepBut w w56 g none):=⟨h6_⟩
            replace HB:Aside0 (Below w0.heap.size w0 w56):=⟨h7_⟩
            clear h0_ h1_ h2_ h3_ h4_ h5_ h6_ h7_
            have hHeld:w56.cell? ⟨gb359,0,none⟩=some (.slice Aq_ x360000_17.length cq_)∧w56.cell? ⟨gb359,1,none⟩=some (.slice Ao49 x360001_17.length co49):=hS_
            refine norm_ (a' := ?_) ?_ ?_
            rotate_left
            ·simp only [putAll,Act.put,List.setIfInBounds_toArray,List.set_cons_zero,List.set_cons_succ]
             rfl
            refine one_ (i:=3) (N:=some 50) (bs 12 831) rfl rfl (one_of HT_.out (by kernel_rfl)) (by decide) (fun K hK => ?_)
            refine Kd.R_lit_step (Kd.int .i64) _ 3 ?hg (N:=50) ?hd (xs:=([0,7,wrap64 (x5_17+1)]:List Int)) (inner := [.int .i64 0,.int .i64 7,.int .i64 (wrap64 (x5_17+1))]) (ok:=fun _=>True) (okp:=fun _=>True) ?hr ?hp (fun _ hk=>hk) trivial (Below.refl _ _) (Nat.le_refl _) (by simp) ?_;(case hd=>rfl);(case hg=>rfl);(case hr=>first|(go_simp;done)|(go_simp;rfl));(case hp=>exact(Reps.one (show Kd.M (Kd.int .i64) _ _ _ 0 [.int .i64 0] from rfl) (Reps.one (show Kd.M (Kd.int .i64) _ _ _ 7 [.int .i64 7] from rfl) (Reps.one (show Kd.M (Kd.int .i64) _ _ _ (wrap64 (x5_17+1)) [.int .i64 (wrap64 (x5_17+1))] from rfl) (Reps.none _ _)))))
            intro v384 w57 ho58 hb hg_ hnew_
            clear hg_ hnew_
            (first|rw [← Ny383.out] at ho58|(simp only [Int.reduceToNat] at ho58;rw [← Ny383.out] at ho58))
            replace HO_7:=A0_ (Kd.S_elder' (zS_ HO_7) (Kd.R_base ho58) hb)
            have HO385:=A0_ (rL (Kd.R_new' (Kd.R_new' ho58 (Kd.Q_lt (zQ_ HO_360000))) (rX (zR_ HO_360001))) (keep_size (w:=w) (g:=g) (row:=none) (by repeat(first|(with_reducible first|exact HK.out|apply KeepBut.set_|apply keep_drewN|apply keep_drew|apply keep_alloc|refine keep_far ?_ GW349.out _|refine keep_far ?_ GW359.out _)|exact HK.out))))
            replace HO_360000:=A0_ (Kd.Q_elder' (zQ_ HO_360000) (Kd.R_base ho58) hb)
            replace HO_360001:=A0_ (Kd.R_elder' (zR_ HO_360001) (Kd.R_base ho58) hb)
            replace BK349:=zK BK349 hb;replace BK359:=zK BK359 hb
            replace HK:=A0_ (KeepBut.trans (by repeat(first|(with_reducible first|exact HK.out|apply KeepBut.set_|apply keep_drewN|apply keep_drew|apply keep_alloc|refine keep_far ?_ GW349.out _|refine keep_far ?_ GW359.out _)|exact HK.out)) (KeepBut.of_below hb g none) (.inl rfl))
            replace HB:=A0_ (bT (by repeat(first|(with_reducible first|exact HB.out|apply bA|apply bN|apply bD|refine bS ?_ (IsS82.ge HI0.out)|refine bS ?_ GE349.out|refine bS ?_ GE359.out)|exact HB.out)) hb)
            replace HI0:=A0_ (IsS82.below (by repeat(first|(with_reducible first|exact HI0.out|apply IsS82.alloc|apply IsS82.drewN|apply IsS82.drew|apply IsS82.set_1|refine IsS82.far ?_ NB0_349.out _|refine IsS82.far ?_ NB0_359.out _)|exact HI0.out)) hb)
            clear hb ho58;obtain⟨Ao59,co59,eo59⟩:=rS HO385.out;subst eo59
            obtain⟨ado59,fo59,_⟩:=tI (rR HO385.out).2.2 0 (by decide) (by rw [Ny383.out];simp)
            cases fo59
            refine hK.out _ _ ⟨(kC BK359.out 0).trans rfl,(kC BK359.out 1).trans rfl⟩ (fun hHeld => ?_)
            clear hK K
            refine norm_ (a' := ?_) ?_ ?_
            rotate_left
            ·show Act.put _ (some 50) _=_
             simp only [Act.put,List.setIfInBounds_toArray,List.set_cons_zero,List.set_cons_succ,i64_w,i32_w]
             rfl
            refine zP 6 (some 53) (bs 12 895) ?_
            exact norm_ zA (hJ3_5_9 (.slice (some ado59) y383.length co59,ado59) _ ⟨hHeld,(zmR HO385 (fun _ hk=>⟨hk.1.2,hk.2⟩)),(zmQ HO_360000 (fun _ hk=>⟨hk.2,hk.1⟩)),(zmR HO_360001 (fun _ hk=>⟨hk.2,hk.1⟩)),(zmS HO_7 (fun _ hk=>⟨hk.2,⟨hk.1.1,hk.1.2⟩⟩)),⟨_,rfl⟩,(zK_ BK349),(zK_ BK359),(by repeat(first|(with_reducible first|exact HI0.out|apply IsS82.alloc|apply IsS82.drewN|apply IsS82.drew|apply IsS82.set_1|refine IsS82.far ?_ NB0_349.out _|refine IsS82.far ?_ NB0_359.out _)|exact HI0.out)),(by repeat(first|(with_reducible first|exact HK.out|apply KeepBut.set_|apply keep_drewN|apply keep_drew|apply keep_alloc|refine keep_far ?_ GW349.out _|refine keep_far ?_ GW359.out _)|exact HK.out)),(by repeat(first|(with_reducible first|exact HB.out|apply bA|apply bN|apply bD|refine bS ?_ (IsS82.ge HI0.out)|refine bS ?_ GE349.out|refine bS ?_ GE359.out)|exact HB.out))⟩)
           skip
           rintro⟨v384,adz_v384⟩ w56 ⟨hS_,h0_,h1_,h2_,h3_,h4_,h5_,h6_,h7_,h8_,h9_⟩
           have HO385:Aside0 (Kd.R (Kd.int .i64) 3 w56 w.heap.size (fun k_=>some k_≠(.slice Aq_ x360000_17.length cq_:Value).ownBlock∧some k_≠(.slice Ao49 x360001_17.length co49:Value).ownBlock) v384 y383):=⟨h0_⟩
           replace HO_360000:Aside0 (Kd.Q (Kd.int .i64) 3 w56 w.heap.size (fun k_=>some k_≠(v384:Value).ownBlock∧some k_≠(.slice Ao49 x360001_17.length co49:Value).ownBlock) (.slice Aq_ x360000_17.length cq_) x360000_17):=⟨h1_⟩
           replace HO_360001:Aside0 (Kd.R (Kd.int .i64) 3 w56 w.heap.size (fun k_=>some k_≠(v384:Value).ownBlock∧some k_≠(.slice Aq_ x360000_17.length cq_:Value).ownBlock) (.slice Ao49 x360001_17.length co49) x360001_17):=⟨h2_⟩
           replace HO_7:Aside0 (Kd.S (Kd.slice 3 (Kd.int .i64)) 23 w56 w.heap.size (fun k_=>some k_≠(v384:Value).ownBlock∧some k_≠(.slice Aq_ x360000_17.length cq_:Value).ownBlock∧some k_≠(.slice Ao49 x360001_17.length co49:Value).ownBlock) u7 x7_3):=⟨h3_⟩
           have HA_HO385:Aside0 (∃ c_,(v384:Value) = .slice (some adz_v384) y383.length c_):=⟨h4_⟩
           replace BK349:Aside0 (w56.heap[gb349]? = some (.cells #[.slice none 0 0,.slice none 0 0] 25 (0,0))):=⟨h5_⟩
           replace BK359:Aside0 (w56.heap[gb359]? = some (.cells #[.slice Aq_ x360000_17.length cq_,.slice Ao49 x360001_17.length co49] 25 (0,0))):=⟨h6_⟩
           replace HI0:Aside0 (IsS82 w0 w56 g s0_0 t387):=⟨h7_⟩
           replace HK:Aside0 (KeepBut w w56 g none):=⟨h8_⟩
           replace HB:Aside0 (Below w0.heap.size w0 w56):=⟨h9_⟩
           clear h0_ h1_ h2_ h3_ h4_ h5_ h6_ h7_ h8_ h9_
           have hHeld:w56.cell? ⟨gb359,0,none⟩=some (.slice Aq_ x360000_17.length cq_)∧w56.cell? ⟨gb359,1,none⟩=some (.slice Ao49 x360001_17.length co49):=hS_
           obtain⟨co57,eo57⟩:=HA_HO385.out;clear HA_HO385;subst eo57;skip
           (first|skip|(injection eo58 with f1_ f2_ f3_;have f4_:=f1_.symm;have f5_:=f3_.symm;clear f1_ f2_ f3_;subst f4_;subst f5_))
           refine norm_ (a' := ?_) ?_ ?_
           rotate_left
           ·simp only [putAll,Act.put,List.setIfInBounds_toArray,List.set_cons_zero,List.set_cons_succ]
            rfl
           refine two_ (i:=7) (j:=9) (Ni:=some 54) (Nj:=none) (bs 12 511) (bs 12 895) rfl rfl rfl rfl (two_of HT_.out (by kernel_rfl)) (by decide) (by decide) (fun K hK => ?_) (fun K hK => ?_)
           ·skip
            (have p388:0≤(t386:Int):=zd;have q388:t386<(y383.length:Int):=zd;obtain⟨ad388,e388,hx388_0⟩:=tI (rR HO385.out).2.2 t386 p388 q388;obtain rfl:adz_v384=ad388:=(by injection e388))
            refine value_ (w1 := ?_) (v := ?_) (by rfl) rfl ?_ ?_
            rotate_left 2
            ·go_simp
             constructor
             ·rfl
             rfl
            clear hx388_0
            refine hK.out _ _ ⟨(kC BK359.out 0).trans rfl,(kC BK359.out 1).trans rfl⟩ (fun hHeld => ?_)
            clear hK K
            refine norm_ (a' := ?_) ?_ ?_
            rotate_left
            ·show Act.put _ (some 54) _=_
             simp only [Act.put,List.setIfInBounds_toArray,List.set_cons_zero,List.set_cons_succ,i64_w,i32_w]
             rfl
            exact norm_ zA (hJ3_5_7 (.slice (some adz_v384) y383.length co57,adz_v384) _ ⟨hHeld,(zR_ HO385),(zQ_ HO_360000),(zR_ HO_360001),(zS_ HO_7),⟨_,rfl⟩,(zK_ BK349),(zK_ BK359),(by repeat(first|(with_reducible first|exact HI0.out|apply IsS82.alloc|apply IsS82.drewN|apply IsS82.drew|apply IsS82.set_1|refine IsS82.far ?_ NB0_349.out _|refine IsS82.far ?_ NB0_359.out _)|exact HI0.out)),(by repeat(first|(with_reducible first|exact HK.out|apply KeepBut.set_|apply keep_drewN|apply keep_drew|apply keep_alloc|refine keep_far ?_ GW349.out _|refine keep_far ?_ GW359.out _)|exact HK.out)),(by repeat(first|(with_reducible first|exact HB.out|apply bA|apply bN|apply bD|refine bS ?_ (IsS82.ge HI0.out)|refine bS ?_ GE349.out|refine bS ?_ GE359.out)|exact HB.out))⟩)
           skip
           have hs59:w56.cell? ⟨gb349,0,none⟩=some (.slice none 0 0):=(kC BK349.out 0).trans rfl
           have hfs59:=kF BK349.out 0;have hns59_1:=NB359_349.out;have hms59_1:=NB349_359.out
           have hs60:w56.cell? ⟨gb349,1,none⟩=some (.slice none 0 0):=(kC BK349.out 1).trans rfl
           have hfs60:=kF BK349.out 1;have hns60_1:=NB359_349.out;have hms60_1:=NB349_359.out
           refine skip_ (w1 := ?_) (by rfl) rfl ?_ ?_
           rotate_left
           ·go_simp
            rfl
           refine hK.out _ _ ⟨((cell_far (p:=⟨gb349,_,none⟩) NB359_349.out _).trans (((cell_far (p:=⟨gb349,_,none⟩) NB359_349.out _).trans (hHeld.1)))),((cell_far (p:=⟨gb349,_,none⟩) NB359_349.out _).trans (((cell_far (p:=⟨gb349,_,none⟩) NB359_349.out _).trans (hHeld.2))))⟩ (fun hHeld => ?_)
           clear hK K
           exact norm_ zA (hJ3_5_9 (.slice (some adz_v384) y383.length co57,adz_v384) _ ⟨hHeld,(by(with_reducible repeat(first|apply rA|apply rN|apply rD));exact rM (rF (p:=⟨gb349,1,none⟩) (rF (p:=⟨gb349,0,none⟩) (rY HO385.out BK349.out (by decide)) (fun _ hk=>hk.2) (.slice Aq_ x360000_17.length cq_)) (fun _ hk=>hk.2) (.slice Ao49 x360001_17.length co49)) (fun _ hk=>⟨hk.1.1,hk.1.2⟩)),(by(with_reducible repeat(first|apply Kd.Q_alloc|apply Kd.Q_drewN|apply Kd.Q_drew));exact Kd.Q_mono (Kd.Q_far (p:=⟨gb349,1,none⟩) (Kd.Q_far (p:=⟨gb349,0,none⟩) (Kd.Q_types HO_360000.out BK349.out (by decide)) (fun _ hk=>hk.2) (.slice Aq_ x360000_17.length cq_)) (fun _ hk=>hk.2) (.slice Ao49 x360001_17.length co49)) (fun _ hk=>⟨hk.1.1,hk.1.2⟩)),(by(with_reducible repeat(first|apply rA|apply rN|apply rD));exact rM (rF (p:=⟨gb349,1,none⟩) (rF (p:=⟨gb349,0,none⟩) (rY HO_360001.out BK349.out (by decide)) (fun _ hk=>hk.2) (.slice Aq_ x360000_17.length cq_)) (fun _ hk=>hk.2) (.slice Ao49 x360001_17.length co49)) (fun _ hk=>⟨hk.1.1,hk.1.2⟩)),(by(with_reducible repeat(first|apply sA|apply sN|apply sD));exact sM (Kd.S_far (p:=⟨gb349,1,none⟩) (Kd.S_far (p:=⟨gb349,0,none⟩) (Kd.S_types HO_7.out BK349.out (by decide)) (fun _ hk=>hk.2) (.slice Aq_ x360000_17.length cq_)) (fun _ hk=>hk.2) (.slice Ao49 x360001_17.length co49)) (fun _ hk=>⟨hk.1.1,⟨hk.1.2.1,hk.1.2.2⟩⟩)),⟨_,rfl⟩,(by(with_reducible repeat(first|refine kN ?_ _|refine kD ?_|refine kA ?_ _));refine blk_put (cs := #[.slice Aq_ x360000_17.length cq_,.slice none 0 0]) ?_ 1 _ rfl;(with_reducible repeat(first|refine kN ?_ _|refine kD ?_|refine kA ?_ _));refine blk_put (cs := #[.slice none 0 0,.slice none 0 0]) ?_ 0 _ rfl;(with_reducible repeat(first|refine kN ?_ _|refine kD ?_|refine kA ?_ _));exact BK349.out),(by(with_reducible repeat(first|refine kN ?_ _|refine kD ?_|refine kA ?_ _));refine blk_far ?_ NB359_349.out _;(with_reducible repeat(first|refine kN ?_ _|refine kD ?_|refine kA ?_ _));refine blk_far ?_ NB359_349.out _;(with_reducible repeat(first|refine kN ?_ _|refine kD ?_|refine kA ?_ _));exact BK359.out),(by repeat(first|(with_reducible first|exact HI0.out|apply IsS82.alloc|apply IsS82.drewN|apply IsS82.drew|apply IsS82.set_1|refine IsS82.far ?_ NB0_349.out _|refine IsS82.far ?_ NB0_359.out _)|exact HI0.out)),(by repeat(first|(with_reducible first|exact HK.out|apply KeepBut.set_|apply keep_drewN|apply keep_drew|apply keep_alloc|refine keep_far ?_ GW349.out _|refine keep_far ?_ GW359.out _)|exact HK.out)),(by repeat(first|(with_reducible first|exact HB.out|apply bA|apply bN|apply bD|refine bS ?_ (IsS82.ge HI0.out)|refine bS ?_ GE349.out|refine bS ?_ GE359.out)|exact HB.out))⟩)
          skip
          rintro⟨v384,adz_v384⟩ w59 ⟨hS_,h0_,h1_,h2_,h3_,h4_,h5_,h6_,h7_,h8_,h9_⟩
          have HO385:Aside0 (Kd.R (Kd.int .i64) 3 w59 w.heap.size (fun k_=>some k_≠(.slice Aq_ x360000_17.length cq_:Value).ownBlock∧some k_≠(.slice Ao49 x360001_17.length co49:Value).ownBlock) v384 y383):=⟨h0_⟩
          replace HO_360000:Aside0 (Kd.Q (Kd.int .i64) 3 w59 w.heap.size (fun k_=>some k_≠(v384:Value).ownBlock∧some k_≠(.slice Ao49 x360001_17.length co49:Value).ownBlock) (.slice Aq_ x360000_17.length cq_) x360000_17):=⟨h1_⟩
          replace HO_360001:Aside0 (Kd.R (Kd.int .i64) 3 w59 w.heap.size (fun k_=>some k_≠(v384:Value).ownBlock∧some k_≠(.slice Aq_ x360000_17.length cq_:Value).ownBlock) (.slice Ao49 x360001_17.length co49) x360001_17):=⟨h2_⟩
          replace HO_7:Aside0 (Kd.S (Kd.slice 3 (Kd.int .i64)) 23 w59 w.heap.size (fun k_=>some k_≠(v384:Value).ownBlock∧some k_≠(.slice Aq_ x360000_17.length cq_:Value).ownBlock∧some k_≠(.slice Ao49 x360001_17.length co49:Value).ownBlock) u7 x7_3):=⟨h3_⟩
          have HA_HO385:Aside0 (∃ c_,(v384:Value) = .slice (some adz_v384) y383.length c_):=⟨h4_⟩
          replace BK349:Aside0 (w59.heap[gb349]? = some (.cells #[.slice Aq_ x360000_17.length cq_,.slice Ao49 x360001_17.length co49] 25 (0,0))):=⟨h5_⟩
          replace BK359:Aside0 (w59.heap[gb359]? = some (.cells #[.slice Aq_ x360000_17.length cq_,.slice Ao49 x360001_17.length co49] 25 (0,0))):=⟨h6_⟩
          replace HI0:Aside0 (IsS82 w0 w59 g s0_0 t387):=⟨h7_⟩
          replace HK:Aside0 (KeepBut w w59 g none):=⟨h8_⟩
          replace HB:Aside0 (Below w0.heap.size w0 w59):=⟨h9_⟩
          clear h0_ h1_ h2_ h3_ h4_ h5_ h6_ h7_ h8_ h9_
          have hHeld:w59.cell? ⟨gb359,0,none⟩=some (.slice Aq_ x360000_17.length cq_)∧w59.cell? ⟨gb359,1,none⟩=some (.slice Ao49 x360001_17.length co49):=hS_
          obtain⟨co60,eo60⟩:=HA_HO385.out;clear HA_HO385;subst eo60
          refine norm_ (a' := ?_) ?_ ?_
          rotate_left
          ·simp only [putAll,Act.put,List.setIfInBounds_toArray,List.set_cons_zero,List.set_cons_succ]
           rfl
          refine one_ (i:=7) (N:=some 54) (bs 12 1023) rfl rfl (one_of HT_.out (by kernel_rfl)) (by decide) (fun K hK => ?_)
          (have p388:0≤(t386:Int):=zd;have q388:t386<(y383.length:Int):=zd;obtain⟨ad388,e388,hx388_0⟩:=tI (rR HO385.out).2.2 t386 p388 q388;obtain rfl:adz_v384=ad388:=(by injection e388))
          refine value_ (w1 := ?_) (v := ?_) (by rfl) rfl ?_ ?_
          rotate_left 2
          ·go_simp
           constructor
           ·rfl
           rfl
          clear hx388_0
          refine hK.out _ _ ⟨(kC BK359.out 0).trans rfl,(kC BK359.out 1).trans rfl⟩ (fun hHeld => ?_)
          clear hK K
          refine norm_ (a' := ?_) ?_ ?_
          rotate_left
          ·show Act.put _ (some 54) _=_
           simp only [Act.put,List.setIfInBounds_toArray,List.set_cons_zero,List.set_cons_succ,i64_w,i32_w]
           rfl
          exact norm_ zA (hJ3_5_7_9 (.slice (some adz_v384) y383.length co60,adz_v384) _ ⟨hHeld,(zR_ HO385),(zQ_ HO_360000),(zR_ HO_360001),(zS_ HO_7),⟨_,rfl⟩,(zK_ BK349),(zK_ BK359),(by repeat(first|(with_reducible first|exact HI0.out|apply IsS82.alloc|apply IsS82.drewN|apply IsS82.drew|apply IsS82.set_1|refine IsS82.far ?_ NB0_349.out _|refine IsS82.far ?_ NB0_359.out _)|exact HI0.out)),(by repeat(first|(with_reducible first|exact HK.out|apply KeepBut.set_|apply keep_drewN|apply keep_drew|apply keep_alloc|refine keep_far ?_ GW349.out _|refine keep_far ?_ GW359.out _)|exact HK.out)),(by repeat(first|(with_reducible first|exact HB.out|apply bA|apply bN|apply bD|refine bS ?_ (IsS82.ge HI0.out)|refine bS ?_ GE349.out|refine bS ?_ GE359.out)|exact HB.out))⟩)
         skip
         rintro⟨v384,adz_v384⟩ w56 ⟨hS_,h0_,h1_,h2_,h3_,h4_,h5_,h6_,h7_,h8_,h9_⟩
         have HO385:Aside0 (Kd.R (Kd.int .i64) 3 w56 w.heap.size (fun k_=>some k_≠(.slice Aq_ x360000_17.length cq_:Value).ownBlock∧some k_≠(.slice Ao49 x360001_17.length co49:Value).ownBlock) v384 y383):=⟨h0_⟩
         replace HO_360000:Aside0 (Kd.Q (Kd.int .i64) 3 w56 w.heap.size (fun k_=>some k_≠(v384:Value).ownBlock∧some k_≠(.slice Ao49 x360001_17.length co49:Value).ownBlock) (.slice Aq_ x360000_17.length cq_) x360000_17):=⟨h1_⟩
         replace HO_360001:Aside0 (Kd.R (Kd.int .i64) 3 w56 w.heap.size (fun k_=>some k_≠(v384:Value).ownBlock∧some k_≠(.slice Aq_ x360000_17.length cq_:Value).ownBlock) (.slice Ao49 x360001_17.length co49) x360001_17):=⟨h2_⟩
         replace HO_7:Aside0 (Kd.S (Kd.slice 3 (Kd.int .i64)) 23 w56 w.heap.size (fun k_=>some k_≠(v384:Value).ownBlock∧some k_≠(.slice Aq_ x360000_17.length cq_:Value).ownBlock∧some k_≠(.slice Ao49 x360001_17.length co49:Value).ownBlock) u7 x7_3):=⟨h3_⟩
         have HA_HO385:Aside0 (∃ c_,(v384:Value) = .slice (some adz_v384) y383.length c_):=⟨h4_⟩
         replace BK349:Aside0 (w56.heap[gb349]? = some (.cells #[.slice none 0 0,.slice none 0 0] 25 (0,0))):=⟨h5_⟩
         replace BK359:Aside0 (w56.heap[gb359]? = some (.cells #[.slice Aq_ x360000_17.length cq_,.slice Ao49 x360001_17.length co49] 25 (0,0))):=⟨h6_⟩
         replace HI0:Aside0 (IsS82 w0 w56 g s0_0 t387):=⟨h7_⟩
         replace HK:Aside0 (KeepBut w w56 g none):=⟨h8_⟩
         replace HB:Aside0 (Below w0.heap.size w0 w56):=⟨h9_⟩
         clear h0_ h1_ h2_ h3_ h4_ h5_ h6_ h7_ h8_ h9_
         have hHeld:w56.cell? ⟨gb359,0,none⟩=some (.slice Aq_ x360000_17.length cq_)∧w56.cell? ⟨gb359,1,none⟩=some (.slice Ao49 x360001_17.length co49):=hS_
         obtain⟨co57,eo57⟩:=HA_HO385.out;clear HA_HO385;subst eo57;skip
         (first|skip|(injection eo58 with f1_ f2_ f3_;have f4_:=f1_.symm;have f5_:=f3_.symm;clear f1_ f2_ f3_;subst f4_;subst f5_))
         refine norm_ (a' := ?_) ?_ ?_
         rotate_left
         ·simp only [putAll,Act.put,List.setIfInBounds_toArray,List.set_cons_zero,List.set_cons_succ]
          rfl
         refine one_ (i:=9) (N:=none) (bs 12 1023) rfl rfl (one_of HT_.out (by kernel_rfl)) (by decide) (fun K hK => ?_)
         have hs59:w56.cell? ⟨gb349,0,none⟩=some (.slice none 0 0):=(kC BK349.out 0).trans rfl
         have hfs59:=kF BK349.out 0;have hns59_1:=NB359_349.out;have hms59_1:=NB349_359.out
         have hs60:w56.cell? ⟨gb349,1,none⟩=some (.slice none 0 0):=(kC BK349.out 1).trans rfl
         have hfs60:=kF BK349.out 1;have hns60_1:=NB359_349.out;have hms60_1:=NB349_359.out
         refine skip_ (w1 := ?_) (by rfl) rfl ?_ ?_
         rotate_left
         ·go_simp
          rfl
         refine hK.out _ _ ⟨((cell_far (p:=⟨gb349,_,none⟩) NB359_349.out _).trans (((cell_far (p:=⟨gb349,_,none⟩) NB359_349.out _).trans (hHeld.1)))),((cell_far (p:=⟨gb349,_,none⟩) NB359_349.out _).trans (((cell_far (p:=⟨gb349,_,none⟩) NB359_349.out _).trans (hHeld.2))))⟩ (fun hHeld => ?_)
         clear hK K
         exact norm_ zA (hJ3_5_7_9 (.slice (some adz_v384) y383.length co57,adz_v384) _ ⟨hHeld,(by(with_reducible repeat(first|apply rA|apply rN|apply rD));exact rM (rF (p:=⟨gb349,1,none⟩) (rF (p:=⟨gb349,0,none⟩) (rY HO385.out BK349.out (by decide)) (fun _ hk=>hk.2) (.slice Aq_ x360000_17.length cq_)) (fun _ hk=>hk.2) (.slice Ao49 x360001_17.length co49)) (fun _ hk=>⟨hk.1.1,hk.1.2⟩)),(by(with_reducible repeat(first|apply Kd.Q_alloc|apply Kd.Q_drewN|apply Kd.Q_drew));exact Kd.Q_mono (Kd.Q_far (p:=⟨gb349,1,none⟩) (Kd.Q_far (p:=⟨gb349,0,none⟩) (Kd.Q_types HO_360000.out BK349.out (by decide)) (fun _ hk=>hk.2) (.slice Aq_ x360000_17.length cq_)) (fun _ hk=>hk.2) (.slice Ao49 x360001_17.length co49)) (fun _ hk=>⟨hk.1.1,hk.1.2⟩)),(by(with_reducible repeat(first|apply rA|apply rN|apply rD));exact rM (rF (p:=⟨gb349,1,none⟩) (rF (p:=⟨gb349,0,none⟩) (rY HO_360001.out BK349.out (by decide)) (fun _ hk=>hk.2) (.slice Aq_ x360000_17.length cq_)) (fun _ hk=>hk.2) (.slice Ao49 x360001_17.length co49)) (fun _ hk=>⟨hk.1.1,hk.1.2⟩)),(by(with_reducible repeat(first|apply sA|apply sN|apply sD));exact sM (Kd.S_far (p:=⟨gb349,1,none⟩) (Kd.S_far (p:=⟨gb349,0,none⟩) (Kd.S_types HO_7.out BK349.out (by decide)) (fun _ hk=>hk.2) (.slice Aq_ x360000_17.length cq_)) (fun _ hk=>hk.2) (.slice Ao49 x360001_17.length co49)) (fun _ hk=>⟨hk.1.1,⟨hk.1.2.1,hk.1.2.2⟩⟩)),⟨_,rfl⟩,(by(with_reducible repeat(first|refine kN ?_ _|refine kD ?_|refine kA ?_ _));refine blk_put (cs := #[.slice Aq_ x360000_17.length cq_,.slice none 0 0]) ?_ 1 _ rfl;(with_reducible repeat(first|refine kN ?_ _|refine kD ?_|refine kA ?_ _));refine blk_put (cs := #[.slice none 0 0,.slice none 0 0]) ?_ 0 _ rfl;(with_reducible repeat(first|refine kN ?_ _|refine kD ?_|refine kA ?_ _));exact BK349.out),(by(with_reducible repeat(first|refine kN ?_ _|refine kD ?_|refine kA ?_ _));refine blk_far ?_ NB359_349.out _;(with_reducible repeat(first|refine kN ?_ _|refine kD ?_|refine kA ?_ _));refine blk_far ?_ NB359_349.out _;(with_reducible repeat(first|refine kN ?_ _|refine kD ?_|refine kA ?_ _));exact BK359.out),(by repeat(first|(with_reducible first|exact HI0.out|apply IsS82.alloc|apply IsS82.drewN|apply IsS82.drew|apply IsS82.set_1|refine IsS82.far ?_ NB0_349.out _|refine IsS82.far ?_ NB0_359.out _)|exact HI0.out)),(by repeat(first|(with_reducible first|exact HK.out|apply KeepBut.set_|apply keep_drewN|apply keep_drew|apply keep_alloc|refine keep_far ?_ GW349.out _|refine keep_far ?_ GW359.out _)|exact HK.out)),(by repeat(first|(with_reducible first|exact HB.out|apply bA|apply bN|apply bD|refine bS ?_ (IsS82.ge HI0.out)|refine bS ?_ GE349.out|refine bS ?_ GE359.out)|exact HB.out))⟩)
        rintro⟨v384,adz_v384⟩ w59 ⟨hS_,h0_,h1_,h2_,h3_,h4_,h5_,h6_,h7_,h8_,h9_⟩
        have HO385:Aside0 (Kd.R (Kd.int .i64) 3 w59 w.heap.size (fun k_=>some k_≠(.slice Aq_ x360000_17.length cq_:Value).ownBlock∧some k_≠(.slice Ao49 x360001_17.length co49:Value).ownBlock) v384 y383):=⟨h0_⟩
        replace HO_360000:Aside0 (Kd.Q (Kd.int .i64) 3 w59 w.heap.size (fun k_=>some k_≠(v384:Value).ownBlock∧some k_≠(.slice Ao49 x360001_17.length co49:Value).ownBlock) (.slice Aq_ x360000_17.length cq_) x360000_17):=⟨h1_⟩
        replace HO_360001:Aside0 (Kd.R (Kd.int .i64) 3 w59 w.heap.size (fun k_=>some k_≠(v384:Value).ownBlock∧some k_≠(.slice Aq_ x360000_17.length cq_:Value).ownBlock) (.slice Ao49 x360001_17.length co49) x360001_17):=⟨h2_⟩
        replace HO_7:Aside0 (Kd.S (Kd.slice 3 (Kd.int .i64)) 23 w59 w.heap.size (fun k_=>some k_≠(v384:Value).ownBlock∧some k_≠(.slice Aq_ x360000_17.length cq_:Value).ownBlock∧some k_≠(.slice Ao49 x360001_17.length co49:Value).ownBlock) u7 x7_3):=⟨h3_⟩
        have HA_HO385:Aside0 (∃ c_,(v384:Value) = .slice (some adz_v384) y383.length c_):=⟨h4_⟩
        replace BK349:Aside0 (w59.heap[gb349]? = some (.cells #[.slice Aq_ x360000_17.length cq_,.slice Ao49 x360001_17.length co49] 25 (0,0))):=⟨h5_⟩
        replace BK359:Aside0 (w59.heap[gb359]? = some (.cells #[.slice Aq_ x360000_17.length cq_,.slice Ao49 x360001_17.length co49] 25 (0,0))):=⟨h6_⟩
        replace HI0:Aside0 (IsS82 w0 w59 g s0_0 t387):=⟨h7_⟩
        replace HK:Aside0 (KeepBut w w59 g none):=⟨h8_⟩
        replace HB:Aside0 (Below w0.heap.size w0 w59):=⟨h9_⟩
        clear h0_ h1_ h2_ h3_ h4_ h5_ h6_ h7_ h8_ h9_
        have hHeld:w59.cell? ⟨gb359,0,none⟩=some (.slice Aq_ x360000_17.length cq_)∧w59.cell? ⟨gb359,1,none⟩=some (.slice Ao49 x360001_17.length co49):=hS_
        obtain⟨co60,eo60⟩:=HA_HO385.out;clear HA_HO385;subst eo60
        refine norm_ (a' := ?_) ?_ ?_
        rotate_left
        ·simp only [putAll,Act.put,List.setIfInBounds_toArray,List.set_cons_zero,List.set_cons_succ]
         rfl
        refine zP 10 (some 3) (bs 12 2047) ?_
        refine zP 11 (some 4) (bs 12 4095) ?_
        refine done_ (done_of HT_.out (by kernel_rfl)) ?_
        try go_wp2
        refine bodyPost_ret (results_ctt rfl _ _ gb349 25 #[.slice Aq_ x360000_17.length cq_,.slice Ao49 x360001_17.length co49] (0,0) _ rfl (zK_ BK349) Try.underlying25 rfl (by kernel_rfl)) rfl ?_
        exact⟨_,_,_,by first|rfl|(simp [*] <;> rfl),zmQ HO_360000 (fun _ hk=>hk.2),zmR HO_360001 (fun _ hk=>hk.2),zmS HO_7 (fun _ hk=>⟨hk.2.1,hk.2.2⟩),by repeat(first|(with_reducible first|exact HI0.out|apply IsS82.alloc|apply IsS82.drewN|apply IsS82.drew|apply IsS82.set_1|refine IsS82.far ?_ NB0_349.out _|refine IsS82.far ?_ NB0_359.out _)|exact HI0.out),by repeat(first|(with_reducible first|exact HB.out|apply bA|apply bN|apply bD|refine bS ?_ (IsS82.ge HI0.out)|refine bS ?_ GE349.out|refine bS ?_ GE359.out)|exact HB.out),by repeat(first|(with_reducible first|exact HK.out|apply KeepBut.set_|apply keep_drewN|apply keep_drew|apply keep_alloc|refine keep_far ?_ GW349.out _|refine keep_far ?_ GW359.out _)|exact HK.out)⟩
       rw [if_neg c42] at H
       have c42b0:(t381 == 0)=false:=beq_eq_false_iff_ne.mpr c42
       have c42b1:(t381 != 0)=true:=bne_iff_ne.mpr c42
       by_cases c61:t381=1
       ·rw [if_pos c61] at H
        have c61b0:(t381 == 1)=true:=beq_iff_eq.mpr c61
        have c61b1:(t381 != 1)=false:=bne_eq_false_iff_eq.mpr c61
        clear c61;obtain⟨t389,A62,H⟩:=zbind H
        have c63:=zpc H;replace H:=zph H
        have LMc63:=A0_ c63;clear c63
        obtain⟨y392,hy392⟩ : ∃ y_:List (List Int),y_=(x7_3 ++ [t389]):=⟨_,rfl⟩
        replace H:(some (x360000_17,x360001_17,x5_17,y392,t382))=some (r1,r2,r3,r4,r5):=zH hy392 H
        have Ny392:=A0_ hy392;clear hy392;simp only [Option.some.injEq,Prod.mk.injEq] at H;obtain⟨rfl,rfl,rfl,rfl,rfl⟩:=H;have hnb64:=NB359_349.out;have hnc64:=NB349_359.out;have hnb65:=NB359_0.out;have hnc65:=NB0_359.out;have hcz66_0:=zc0 BK359;have hcz66_1:=zc1 BK359;have hfz66_0:=kF BK359.out 0;have hfz66_1:=kF BK359.out 1;obtain⟨Ao67,co67,eo67⟩:=rS HO_360001.out;subst eo67
        try go_wp2_with (first|((with_reducible refine gC (f:=74) rfl ?_);refine zJ (some 44) Try.func74 #[.pointer (some ⟨g,0,none⟩),.int .i64 40] ?_;(with_reducible refine(spec_l6Rd_pick.calls k3 g s0_0 x1001_3 40 t381 t382 w0 _ ?side1 ?side2 A41.out).mono ?_);(case side1=>repeat(first|(with_reducible first|exact HI0.out|apply IsS82.alloc|apply IsS82.drewN|apply IsS82.drew|apply IsS82.set_1|refine IsS82.far ?_ NB0_349.out _|refine IsS82.far ?_ NB0_359.out _)|exact HI0.out));(case side2=>repeat(first|(with_reducible first|exact HB.out|apply bA|apply bN|apply bD|refine bS ?_ (IsS82.ge HI0.out)|refine bS ?_ GE349.out|refine bS ?_ GE359.out)|exact HB.out));rintro e w68 ⟨rfl,hi,hb,hk⟩;refine⟨_,rfl,?_⟩;replace HO_7:=A0_ (sM (Kd.S_keep (IsS82.apartS (show IsS82 w0 _ g s0_0 x1001_3 from by repeat(first|(with_reducible first|exact HI0.out|apply IsS82.alloc|apply IsS82.drewN|apply IsS82.drew|apply IsS82.set_1|refine IsS82.far ?_ NB0_349.out _|refine IsS82.far ?_ NB0_359.out _)|exact HI0.out)) (zS_ HO_7) (by decide)) hk (fun _ h=>h.2)) (fun _ h=>h.1));replace HO_360000:=A0_ (Kd.Q_mono (Kd.Q_keep (IsS82.apartQ (show IsS82 w0 _ g s0_0 x1001_3 from by repeat(first|(with_reducible first|exact HI0.out|apply IsS82.alloc|apply IsS82.drewN|apply IsS82.drew|apply IsS82.set_1|refine IsS82.far ?_ NB0_349.out _|refine IsS82.far ?_ NB0_359.out _)|exact HI0.out)) (zQ_ HO_360000) (by decide)) hk (fun _ h=>h.2)) (fun _ h=>h.1));replace HO_360001:=A0_ (rM (Kd.R_keep (IsS82.apart (show IsS82 w0 _ g s0_0 x1001_3 from by repeat(first|(with_reducible first|exact HI0.out|apply IsS82.alloc|apply IsS82.drewN|apply IsS82.drew|apply IsS82.set_1|refine IsS82.far ?_ NB0_349.out _|refine IsS82.far ?_ NB0_359.out _)|exact HI0.out)) (zR_ HO_360001) (by decide)) hk (fun _ h=>h.2)) (fun _ h=>h.1));replace BK349:=A0_ (KeepBut.blk hk (g':=gb349) (o := .cells #[.slice none 0 0,.slice none 0 0] 25 (0,0)) (zK_ BK349) NB349_0.out (by simp));replace BK359:=A0_ (KeepBut.blk hk (g':=gb359) (o := .cells #[u360000,.slice Ao67 x360001_17.length co67] 25 (0,0)) (zK_ BK359) NB359_0.out (by simp));replace HK:=A0_ (KeepBut.trans (by repeat(first|(with_reducible first|exact HK.out|apply KeepBut.set_|apply keep_drewN|apply keep_drew|apply keep_alloc|refine keep_far ?_ GW349.out _|refine keep_far ?_ GW359.out _)|exact HK.out)) hk (.inl rfl));replace HB:=A0_ (hb);replace HI0:=A0_ (hi);(try clear hb)))
        replace HO_7:=A0_ (sD HO_7.out)
        replace HO_360000:=A0_ (Kd.Q_drew HO_360000.out)
        replace HO_360001:=A0_ (rD HO_360001.out)
        replace BK349:=A0_ (kD BK349.out)
        replace BK359:=A0_ (kD BK359.out)
        replace HI0:=A0_ (IsS82.drew HI0.out)
        replace HK:=A0_ (keep_drew HK.out)
        replace HB:=A0_ (bD HB.out)
        refine start_ (n:=10) (S:=fun w'=>w'.cell? ⟨gb359,0,none⟩=some (u360000)∧w'.cell? ⟨gb359,1,none⟩=some (.slice Ao67 x360001_17.length co67)) (ds := []) (bs 10 0) (by kernel_rfl) rfl rfl ⟨(kC BK359.out 0).trans rfl,(kC BK359.out 1).trans rfl⟩ (fun hHeld => ?_);refine with_tabW spec_l92Cover.tab15 spec_l92Cover.bits15 (fun HT_ HW_ => ?_)
        generalize w68.drew=w69 at HO_7 HO_360000 HO_360001 BK349 BK359 HI0 HK HB hHeld ⊢
        refine zP 1 (some 59) (bs 10 2) ?_
        refine zP 2 (some 60) (bs 10 6) ?_
        refine zP 3 (some 61) (bs 10 14) ?_
        refine zT 0 (some 58) (bs 10 15) hHeld ?_
        refine one_ (i:=4) (N:=some 62) (bs 10 31) rfl rfl (one_of HT_.out (by kernel_rfl)) (by decide) (fun K hK => ?_)
        refine goes_ Try.func79 (by kernel_rfl) rfl #[.int .i64 x5_17] (by rfl) rfl rfl (by(try simp only [List.map_toArray,List.map_cons,List.map_nil]);first|done|rfl|(simp only [List.length_drop,List.length_take];rfl)) ?_
        with_reducible refine(spec_l1Same.calls k3 x5_17 t389 _ A62.out).mono ?_
        rintro e w70 ⟨v390,rfl,ho0,hb⟩
        refine⟨_,rfl,?_⟩
        replace HO_7:=A0_ (Kd.S_elder' (zS_ HO_7) (Kd.R_base ho0) hb)
        have HO391:=A0_ (rL (Kd.R_new' (Kd.R_new' ho0 (Kd.Q_lt (zQ_ HO_360000))) (rX (zR_ HO_360001))) (keep_size (w:=w) (g:=g) (row:=none) (by repeat(first|(with_reducible first|exact HK.out|apply KeepBut.set_|apply keep_drewN|apply keep_drew|apply keep_alloc|refine keep_far ?_ GW349.out _|refine keep_far ?_ GW359.out _)|exact HK.out))))
        replace HO_360000:=A0_ (Kd.Q_elder' (zQ_ HO_360000) (Kd.R_base ho0) hb)
        replace HO_360001:=A0_ (Kd.R_elder' (zR_ HO_360001) (Kd.R_base ho0) hb)
        replace BK349:=zK BK349 hb;replace BK359:=zK BK359 hb
        replace HK:=A0_ (KeepBut.trans (by repeat(first|(with_reducible first|exact HK.out|apply KeepBut.set_|apply keep_drewN|apply keep_drew|apply keep_alloc|refine keep_far ?_ GW349.out _|refine keep_far ?_ GW359.out _)|exact HK.out)) (KeepBut.of_below hb g none) (.inl rfl))
        replace HB:=A0_ (bT (by repeat(first|(with_reducible first|exact HB.out|apply bA|apply bN|apply bD|refine bS ?_ (IsS82.ge HI0.out)|refine bS ?_ GE349.out|refine bS ?_ GE359.out)|exact HB.out)) hb)
        replace HI0:=A0_ (IsS82.below (by repeat(first|(with_reducible first|exact HI0.out|apply IsS82.alloc|apply IsS82.drewN|apply IsS82.drew|apply IsS82.set_1|refine IsS82.far ?_ NB0_349.out _|refine IsS82.far ?_ NB0_359.out _)|exact HI0.out)) hb)
        (try clear hb);(try clear hb2);(try clear hk);(try clear hi);(try clear ho0);obtain⟨Ao72,co72,eo72⟩:=rS HO391.out
        (first|subst eo72|(injection eo72 with f1_ f2_ f3_;have f4_:=f1_.symm;have f5_:=f3_.symm;clear f1_ f2_ f3_;subst f4_;subst f5_))
        refine hK.out _ _ ⟨(kC BK359.out 0).trans rfl,(kC BK359.out 1).trans rfl⟩ (fun hHeld => ?_)
        clear hK K
        refine norm_ (a' := ?_) ?_ ?_
        rotate_left
        ·show Act.put _ (some 62) _=_
         simp only [Act.put,List.setIfInBounds_toArray,List.set_cons_zero,List.set_cons_succ,i64_w,i32_w]
         rfl
        refine one_ (i:=5) (N:=some 63) (bs 10 63) rfl rfl (one_of HT_.out (by kernel_rfl)) (by decide) (fun K hK => ?_)
        refine value_ (w1 := ?_) (v := ?_) (by rfl) rfl ?_ ?_
        rotate_left 2
        ·go_simp
         constructor
         ·rfl
         rfl
        refine hK.out _ _ ⟨(kC (kA BK359.out _) 0).trans rfl,(kC (kA BK359.out _) 1).trans rfl⟩ (fun hHeld => ?_)
        clear hK K
        refine norm_ (a' := ?_) ?_ ?_
        rotate_left
        ·show Act.put _ (some 63) _=_
         simp only [Act.put,List.setIfInBounds_toArray,List.set_cons_zero,List.set_cons_succ,i64_w,i32_w]
         rfl
        refine one_ (i:=6) (N:=some 64) (bs 10 127) rfl rfl (one_of HT_.out (by kernel_rfl)) (by decide) (fun K hK => ?_)
        refine Kd.S_append_step (Kd.slice 3 (Kd.int .i64)) w.heap.size (by rfl) (.tmp 60) (.tmp 63) 26 23 (.slice none 0 0) 24 rfl Try.underlying26 info23 rfl (by decide) (by omega) u7 x7_3 t389 [.slice Ao72 t389.length co72] (fun k_=>some k_≠(u360000:Value).ownBlock∧some k_≠(.slice Ao67 x360001_17.length co67:Value).ownBlock) (fun k_=>some k_=(.slice Ao72 t389.length co72:Value).ownBlock) rfl rfl ?aP (fun k_ hk_=>((rM (ok':=fun k_=>((fun k_=>some k_≠(u360000:Value).ownBlock∧some k_≠(.slice Ao67 x360001_17.length co67:Value).ownBlock)) k_∧some k_≠(u7:Value).ownBlock) (Kd.R_apart' (HO391.out) (Kd.S_typed HO_7.out) (by decide)) (fun k_ hk=>⟨⟨hk.1.1.2,hk.1.2⟩,hk.2⟩))).1 k_ hk_.symm) ?aF ?aO (Below.refl _ _) ?aS ?aL ?_
        (case aP=>exact Kd.M_row (rM (Kd.R_tight rfl (rM (ok':=fun k_=>((fun k_=>some k_≠(u360000:Value).ownBlock∧some k_≠(.slice Ao67 x360001_17.length co67:Value).ownBlock)) k_∧some k_≠(u7:Value).ownBlock) (Kd.R_apart' (HO391.out) (Kd.S_typed HO_7.out) (by decide)) (fun k_ hk=>⟨⟨hk.1.1.2,hk.1.2⟩,hk.2⟩))) (fun _ h_=>h_)))
        (case aF=>exact(fun k_ hk=>⟨Kd.fresh' (Kd.Q_lt (zQ_ HO_360000)) k_ hk,Kd.fresh' (rX (zR_ HO_360001)) k_ hk⟩))
        (case aO=>exact(zmS HO_7 (fun k_ hk=>⟨⟨hk.1.1,hk.1.2⟩,fun e_=>hk.2 e_⟩)))
        (case aS=>exact(keep_size (w:=w) (g:=g) (row:=none) (by repeat(first|(with_reducible first|exact HK.out|apply KeepBut.set_|apply keep_drewN|apply keep_drew|apply keep_alloc|refine keep_far ?_ GW349.out _|refine keep_far ?_ GW359.out _)|exact HK.out))))
        (case aL=>have:=LMc63.out;omega)
        intro v393 w71 ho hb hg hat
        rw [← Ny392.out] at ho
        replace HO_360000:=A0_ (Kd.Q_over' (zQ_ HO_360000) (Kd.S_typed (zS_ HO_7)) (by decide) hg)
        replace HO_360001:=A0_ (Kd.R_over' (zR_ HO_360001) (Kd.S_typed (zS_ HO_7)) (by decide) hg)
        replace BK349:=A0_ (blk_grown (g:=gb349) (o := .cells #[.slice none 0 0,.slice none 0 0] 25 (0,0)) (zK_ BK349) hg (Kd.S_ne HO_7.out BK349.out (by decide)))
        replace BK359:=A0_ (blk_grown (g:=gb359) (o := .cells #[u360000,.slice Ao67 x360001_17.length co67] 25 (0,0)) (zK_ BK359) hg (Kd.S_ne HO_7.out BK359.out (by decide)))
        replace HB:=A0_ (below_weaken (by repeat(first|(with_reducible first|exact HB.out|apply bA|apply bN|apply bD|refine bS ?_ (IsS82.ge HI0.out)|refine bS ?_ GE349.out|refine bS ?_ GE359.out)|exact HB.out)) HL.out hb)
        replace HI0:=A0_ (IsS82.grown (by repeat(first|(with_reducible first|exact HI0.out|apply IsS82.alloc|apply IsS82.drewN|apply IsS82.drew|apply IsS82.set_1|refine IsS82.far ?_ NB0_349.out _|refine IsS82.far ?_ NB0_359.out _)|exact HI0.out)) hg (IsS82.own_neS HI0.out HO_7.out (by decide)))
        replace HK:=A0_ (KeepBut.trans (by repeat(first|(with_reducible first|exact HK.out|apply KeepBut.set_|apply keep_drewN|apply keep_drew|apply keep_alloc|refine keep_far ?_ GW349.out _|refine keep_far ?_ GW359.out _)|exact HK.out)) (KeepBut.of_grown hg g) (Kd.S_base2 HO_7.out))
        have HO394:=A0_ (ho)
        clear HO_7 HO391 ho hb hg hat;obtain⟨Ao73,co73,eo73,_⟩:=Kd.Q_slice HO_360000.out
        (first|subst eo73|(injection eo73 with f1_ f2_ f3_;have f4_:=f1_.symm;have f5_:=f3_.symm;clear f1_ f2_ f3_;subst f4_;subst f5_))
        refine hK.out _ _ ⟨(kC BK359.out 0).trans rfl,(kC BK359.out 1).trans rfl⟩ (fun hHeld => ?_)
        clear hK K
        refine norm_ (a' := ?_) ?_ ?_
        rotate_left
        ·show Act.put _ (some 64) _=_
         simp only [Act.put,List.setIfInBounds_toArray,List.set_cons_zero,List.set_cons_succ,i64_w,i32_w]
         rfl
        refine one_ (i:=7) (N:=none) (bs 10 255) rfl rfl (one_of HT_.out (by kernel_rfl)) (by decide) (fun K hK => ?_)
        have hs74:w71.cell? ⟨gb349,0,none⟩=some (.slice none 0 0):=(kC BK349.out 0).trans rfl
        have hfs74:=kF BK349.out 0;have hns74_1:=NB359_349.out;have hms74_1:=NB349_359.out
        have hs75:w71.cell? ⟨gb349,1,none⟩=some (.slice none 0 0):=(kC BK349.out 1).trans rfl
        have hfs75:=kF BK349.out 1;have hns75_1:=NB359_349.out;have hms75_1:=NB349_359.out
        refine skip_ (w1 := ?_) (by rfl) rfl ?_ ?_
        rotate_left
        ·go_simp
         rfl
        refine hK.out _ _ ⟨((cell_far (p:=⟨gb349,_,none⟩) NB359_349.out _).trans (((cell_far (p:=⟨gb349,_,none⟩) NB359_349.out _).trans (hHeld.1)))),((cell_far (p:=⟨gb349,_,none⟩) NB359_349.out _).trans (((cell_far (p:=⟨gb349,_,none⟩) NB359_349.out _).trans (hHeld.2))))⟩ (fun hHeld => ?_)
        clear hK K
        refine zP 8 (some 3) (bs 10 511) ?_
        refine zP 9 (some 4) (bs 10 1023) ?_
        refine done_ (done_of HT_.out (by kernel_rfl)) ?_
        try go_wp2
        refine bodyPost_ret (results_ctt rfl _ _ gb349 25 #[.slice Ao73 x360000_17.length co73,.slice Ao67 x360001_17.length co67] (0,0) _ rfl (by(with_reducible repeat(first|refine kN ?_ _|refine kD ?_|refine kA ?_ _));refine blk_put (cs := #[.slice Ao73 x360000_17.length co73,.slice none 0 0]) ?_ 1 _ rfl;(with_reducible repeat(first|refine kN ?_ _|refine kD ?_|refine kA ?_ _));refine blk_put (cs := #[.slice none 0 0,.slice none 0 0]) ?_ 0 _ rfl;(with_reducible repeat(first|refine kN ?_ _|refine kD ?_|refine kA ?_ _));exact BK349.out) Try.underlying25 rfl (by kernel_rfl)) rfl ?_
        exact⟨_,_,_,by first|rfl|(simp [*] <;> rfl),by(with_reducible repeat(first|apply Kd.Q_alloc|apply Kd.Q_drewN|apply Kd.Q_drew));exact Kd.Q_mono (Kd.Q_far (p:=⟨gb349,1,none⟩) (Kd.Q_far (p:=⟨gb349,0,none⟩) (Kd.Q_types HO_360000.out BK349.out (by decide)) (fun _ hk=>hk.2) (.slice Ao73 x360000_17.length co73)) (fun _ hk=>hk.2) (.slice Ao67 x360001_17.length co67)) (fun _ hk=>hk.1.1),by(with_reducible repeat(first|apply rA|apply rN|apply rD));exact rM (rF (p:=⟨gb349,1,none⟩) (rF (p:=⟨gb349,0,none⟩) (rY HO_360001.out BK349.out (by decide)) (fun _ hk=>hk.2) (.slice Ao73 x360000_17.length co73)) (fun _ hk=>hk.2) (.slice Ao67 x360001_17.length co67)) (fun _ hk=>hk.1.1),by(with_reducible repeat(first|apply sA|apply sN|apply sD));exact sM (Kd.S_far (p:=⟨gb349,1,none⟩) (Kd.S_far (p:=⟨gb349,0,none⟩) (Kd.S_types HO394.out BK349.out (by decide)) (fun _ hk=>hk.2) (.slice Ao73 x360000_17.length co73)) (fun _ hk=>hk.2) (.slice Ao67 x360001_17.length co67)) (fun _ hk=>⟨hk.1.1,hk.1.2⟩),by repeat(first|(with_reducible first|exact HI0.out|apply IsS82.alloc|apply IsS82.drewN|apply IsS82.drew|apply IsS82.set_1|refine IsS82.far ?_ NB0_349.out _|refine IsS82.far ?_ NB0_359.out _)|exact HI0.out),by repeat(first|(with_reducible first|exact HB.out|apply bA|apply bN|apply bD|refine bS ?_ (IsS82.ge HI0.out)|refine bS ?_ GE349.out|refine bS ?_ GE359.out)|exact HB.out),by repeat(first|(with_reducible first|exact HK.out|apply KeepBut.set_|apply keep_drewN|apply keep_drew|apply keep_alloc|refine keep_far ?_ GW349.out _|refine keep_far ?_ GW359.out _)|exact HK.out)⟩
       rw [if_neg c61] at H
       have c61b0:(t381 == 1)=false:=beq_eq_false_iff_ne.mpr c61
       have c61b1:(t381 != 1)=true:=bne_iff_ne.mpr c61
       simp only [Option.some.injEq,Prod.mk.injEq] at H;obtain⟨rfl,rfl,rfl,rfl,rfl⟩:=H;have hnb76:=NB359_349.out;have hnc76:=NB349_359.out;have hnb77:=NB359_0.out;have hnc77:=NB0_359.out;have hcz78_0:=zc0 BK359;have hcz78_1:=zc1 BK359;have hfz78_0:=kF BK359.out 0;have hfz78_1:=kF BK359.out 1;obtain⟨Ao79,co79,eo79⟩:=rS HO_360001.out;subst eo79
       go_wp2_with (first|((with_reducible refine gC (f:=74) rfl ?_);refine zJ (some 44) Try.func74 #[.pointer (some ⟨g,0,none⟩),.int .i64 40] ?_;(with_reducible refine(spec_l6Rd_pick.calls k3 g s0_0 x1001_3 40 t381 t382 w0 _ ?side1 ?side2 A41.out).mono ?_);(case side1=>repeat(first|(with_reducible first|exact HI0.out|apply IsS82.alloc|apply IsS82.drewN|apply IsS82.drew|apply IsS82.set_1|refine IsS82.far ?_ NB0_349.out _|refine IsS82.far ?_ NB0_359.out _)|exact HI0.out));(case side2=>repeat(first|(with_reducible first|exact HB.out|apply bA|apply bN|apply bD|refine bS ?_ (IsS82.ge HI0.out)|refine bS ?_ GE349.out|refine bS ?_ GE359.out)|exact HB.out));rintro e w80 ⟨rfl,hi,hb,hk⟩;refine⟨_,rfl,?_⟩;replace HO_7:=A0_ (sM (Kd.S_keep (IsS82.apartS (show IsS82 w0 _ g s0_0 x1001_3 from by repeat(first|(with_reducible first|exact HI0.out|apply IsS82.alloc|apply IsS82.drewN|apply IsS82.drew|apply IsS82.set_1|refine IsS82.far ?_ NB0_349.out _|refine IsS82.far ?_ NB0_359.out _)|exact HI0.out)) (zS_ HO_7) (by decide)) hk (fun _ h=>h.2)) (fun _ h=>h.1));replace HO_360000:=A0_ (Kd.Q_mono (Kd.Q_keep (IsS82.apartQ (show IsS82 w0 _ g s0_0 x1001_3 from by repeat(first|(with_reducible first|exact HI0.out|apply IsS82.alloc|apply IsS82.drewN|apply IsS82.drew|apply IsS82.set_1|refine IsS82.far ?_ NB0_349.out _|refine IsS82.far ?_ NB0_359.out _)|exact HI0.out)) (zQ_ HO_360000) (by decide)) hk (fun _ h=>h.2)) (fun _ h=>h.1));replace HO_360001:=A0_ (rM (Kd.R_keep (IsS82.apart (show IsS82 w0 _ g s0_0 x1001_3 from by repeat(first|(with_reducible first|exact HI0.out|apply IsS82.alloc|apply IsS82.drewN|apply IsS82.drew|apply IsS82.set_1|refine IsS82.far ?_ NB0_349.out _|refine IsS82.far ?_ NB0_359.out _)|exact HI0.out)) (zR_ HO_360001) (by decide)) hk (fun _ h=>h.2)) (fun _ h=>h.1));replace BK349:=A0_ (KeepBut.blk hk (g':=gb349) (o := .cells #[.slice none 0 0,.slice none 0 0] 25 (0,0)) (zK_ BK349) NB349_0.out (by simp));replace BK359:=A0_ (KeepBut.blk hk (g':=gb359) (o := .cells #[u360000,.slice Ao79 x360001_17.length co79] 25 (0,0)) (zK_ BK359) NB359_0.out (by simp));replace HK:=A0_ (KeepBut.trans (by repeat(first|(with_reducible first|exact HK.out|apply KeepBut.set_|apply keep_drewN|apply keep_drew|apply keep_alloc|refine keep_far ?_ GW349.out _|refine keep_far ?_ GW359.out _)|exact HK.out)) hk (.inl rfl));replace HB:=A0_ (hb);replace HI0:=A0_ (hi);(try clear hb);have hcz81_0:=zc0 BK359;have hcz81_1:=zc1 BK359;have hfz81_0:=kF BK359.out 0;have hfz81_1:=kF BK359.out 1;obtain⟨Ao82,co82,eo82,_⟩:=Kd.Q_slice HO_360000.out;subst eo82;have hnb83:=NB349_0.out;have hnc83:=NB0_349.out;have hcz84_0:=zc0 BK349;have hcz84_1:=zc1 BK349;have hfz84_0:=kF BK349.out 0;have hfz84_1:=kF BK349.out 1))
       refine bodyPost_ret (results_ctt rfl _ _ gb349 25 #[.slice Ao82 x360000_17.length co82,.slice Ao79 x360001_17.length co79] (0,0) _ rfl (by(with_reducible repeat(first|refine kN ?_ _|refine kD ?_|refine kA ?_ _));refine blk_put (cs := #[.slice Ao82 x360000_17.length co82,.slice none 0 0]) ?_ 1 _ rfl;(with_reducible repeat(first|refine kN ?_ _|refine kD ?_|refine kA ?_ _));refine blk_put (cs := #[.slice none 0 0,.slice none 0 0]) ?_ 0 _ rfl;(with_reducible repeat(first|refine kN ?_ _|refine kD ?_|refine kA ?_ _));exact BK349.out) Try.underlying25 rfl (by kernel_rfl)) rfl ?_
       exact⟨_,_,_,by first|rfl|(simp [*] <;> rfl),by(with_reducible repeat(first|apply Kd.Q_alloc|apply Kd.Q_drewN|apply Kd.Q_drew));exact Kd.Q_mono (Kd.Q_far (p:=⟨gb349,1,none⟩) (Kd.Q_far (p:=⟨gb349,0,none⟩) (Kd.Q_types HO_360000.out BK349.out (by decide)) (fun _ hk=>hk.2) (.slice Ao82 x360000_17.length co82)) (fun _ hk=>hk.2) (.slice Ao79 x360001_17.length co79)) (fun _ hk=>hk.1),zF HO_360001 BK349 (.slice Ao82 x360000_17.length co82) (.slice Ao79 x360001_17.length co79) 0 1,by(with_reducible repeat(first|apply sA|apply sN|apply sD));exact sM (Kd.S_far (p:=⟨gb349,1,none⟩) (Kd.S_far (p:=⟨gb349,0,none⟩) (Kd.S_types HO_7.out BK349.out (by decide)) (fun _ hk=>hk.2) (.slice Ao82 x360000_17.length co82)) (fun _ hk=>hk.2) (.slice Ao79 x360001_17.length co79)) (fun _ hk=>⟨hk.1.1,hk.1.2⟩),by repeat(first|(with_reducible first|exact HI0.out|apply IsS82.alloc|apply IsS82.drewN|apply IsS82.drew|apply IsS82.set_1|refine IsS82.far ?_ NB0_349.out _|refine IsS82.far ?_ NB0_359.out _)|exact HI0.out),by repeat(first|(with_reducible first|exact HB.out|apply bA|apply bN|apply bD|refine bS ?_ (IsS82.ge HI0.out)|refine bS ?_ GE349.out|refine bS ?_ GE359.out)|exact HB.out),by repeat(first|(with_reducible first|exact HK.out|apply KeepBut.set_|apply keep_drewN|apply keep_drew|apply keep_alloc|refine keep_far ?_ GW349.out _|refine keep_far ?_ GW359.out _)|exact HK.out)⟩

end Go.Proofs.Ytmegggomhjgehaa.PFnCover
