-- Made by a program of this session (wip/tools) out of the loaded program; not trusted: Lean checks it.
import Derived.Test.YtmegggomhjgehaaPFnCoverx0
import Derived.Test.YtmegggomhjgehaaPFnCoverx7
import Derived.Test.YtmegggomhjgehaaPFnCoverx10
-- packed
-- packed2
namespace Go.Proofs.Ytmegggomhjgehaa.PFnCover
open Go.RowKit Go.Proofs.YtmegggomhjgehaaW.PrintWords Go.Proofs.YtmegggomhjgehaaW.PrintLast Go.Proofs.YtmegggomhjgehaaW.PrintMore
attribute [local go_sem] max2_int min2_int max_two min_two max_three min_three max_four min_four
set_option linter.unusedVariables false
set_option linter.unusedSimpArgs false

/-! ### spec_l9Cover: function 58 -/
mutual
def spec_l9Cover.l0:Nat→Int→List (List Int)→Int→List Int→List Int→List Int→List Int→Option (List Int×List Int)
  | 0,_,_,_,_,_,_,_=>none
  | k+1,x1,x2,x8,x444000,x444001,x452000,x452001=>if x8<(x444000.length:Int) then ((spec_l9Volt.f k x444000 x444001 x2 x8).bind fun t452=>(spec_l9Cover.l1 k x1 x2 x8 t452 0 x444000 x444001 x452000 x452001)) else (some (x452000,x452001))
def spec_l9Cover.l1:Nat→Int→List (List Int)→Int→List Int→Int→List Int→List Int→List Int→List Int→Option (List Int×List Int)
  | 0,_,_,_,_,_,_,_,_,_=>none
  | k+1,x1,x2,x8,x9,x10,x444000,x444001,x452000,x452001=>if x10<x1 then (if 0≤x8 then (if x8<(x444000.length:Int) then (if x452000.length<17592186044416 then (if x8<(x444001.length:Int) then (if 0≤x10 then (if x10<(x9.length:Int) then (if x452001.length<17592186044416 then (spec_l9Cover.l1 k x1 x2 x8 x9 (wrap64 (x10+1)) x444000 x444001 (x452000 ++ [wrap64 ((wrap64 (x1*(rd x444000 x8)))+x10)]) (x452001 ++ [wrap64 ((wrap64 (x1*(rd x444001 x8)))+(rd x9 x10))])) else (none)) else (none)) else (none)) else (none)) else (none)) else (none)) else (none)) else (spec_l9Cover.l0 k x1 x2 (wrap64 (x8+1)) x444000 x444001 x452000 x452001)
end
def spec_l9Cover.f (k:Nat) (l0_0:List Int) (l0_1:List Int) (a1:Int) (l2:List (List Int)):Option (List Int×List Int):=spec_l9Cover.l0 k a1 l2 0 l0_0 l0_1 (([]:List Int)) (([]:List Int))
def spec_l9Cover.T9:Bool×List (List Nat×List Nat):=(true,[([],[]),([0],[0]),([],[]),([],[]),([3],[3]),([],[]),([4,5],[4,5]),([6],[6]),([2,7],[2,7]),([],[]),([8,9],[8,9]),([10],[10]),([1,11],[1,11]),([0,1,2,3,4,5,6,7,8,9,10,11,12],[]),([13,12,12,0,1,2,3,4,5,6,7,8,9,10,11,12],[12,13])])
def spec_l9Cover.B9:List Nat := [0,1,0,0,8,0,56,120,252,0,1020,2044,4095,8191,16383]
theorem spec_l9Cover.tab9:rtab .any (opsOf Try.f58 9)=spec_l9Cover.T9:=by kernel_rfl
theorem spec_l9Cover.bits9:waitsOk spec_l9Cover.T9.2 spec_l9Cover.B9=true:=by kernel_rfl
def spec_l9Cover.T10:Bool×List (List Nat×List Nat):=(true,[([],[]),([0],[0]),([],[]),([],[]),([3],[3]),([],[]),([4,5],[4,5]),([6],[6]),([2,7],[2,7]),([],[]),([],[]),([9,10],[9,10]),([11],[11]),([8,12],[8,12]),([13],[13]),([1,14],[1,14]),([0,1,2,3,4,5,6,7,8,9,10,11,12,13,14,15],[]),([16,15,15,0,1,2,3,4,5,6,7,8,9,10,11,12,13,14,15],[15,16])])
def spec_l9Cover.B10:List Nat := [0,1,0,0,8,0,56,120,252,0,0,1536,3584,8188,16380,32767,65535,131071]
theorem spec_l9Cover.tab10:rtab .any (opsOf Try.f58 10)=spec_l9Cover.T10:=by kernel_rfl
theorem spec_l9Cover.bits10:waitsOk spec_l9Cover.T10.2 spec_l9Cover.B10=true:=by kernel_rfl
set_option maxHeartbeats 8000000 in
set_option maxRecDepth 100000 in
theorem spec_l9Cover.calls (k:Nat) (A0_0:Option Addr) (c0_0:Nat) (l0_0:List Int) (A0_1:Option Addr) (c0_1:Nat) (l0_1:List Int) (a1:Int) (A2:Option Addr) (c2:Nat) (l2:List (List Int)) (r1:List Int) (r2:List Int) (w:World) (hr0_0:Kd.C (Kd.int .i64) w A0_0 l0_0.length l0_0) (hc0_0:l0_0.length≤c0_0) (hr0_1:Kd.C (Kd.int .i64) w A0_1 l0_1.length l0_1) (hc0_1:l0_1.length≤c0_1) (hr2:Kd.C (Kd.slice 3 (Kd.int .i64)) w A2 l2.length l2) (hc2:l2.length≤c2) (h:spec_l9Cover.f k l0_0 l0_1 a1 l2=some (r1,r2)) :
    Calls Try.prog 58 #[.agg #[.slice A0_0 l0_0.length c0_0,.slice A0_1 l0_1.length c0_1],.int .i64 a1,.slice A2 l2.length c2] w fun e w' => ∃ v0_ v1_:Value,e = .returned (.agg #[v0_,v1_])∧Kd.R (Kd.int .i64) 3 w' w.heap.size (fun k_=>some k_≠(v1_:Value).ownBlock) v0_ r1∧Kd.R (Kd.int .i64) 3 w' w.heap.size (fun k_=>some k_≠(v0_:Value).ownBlock) v1_ r2∧Below w.heap.size w w':=by
 have hu25:=Try.underlying25;have HR0_0:=A0_ hr0_0;have HC0_0:=A0_ hc0_0;clear hr0_0 hc0_0;have HR0_1:=A0_ hr0_1;have HC0_1:=A0_ hc0_1;clear hr0_1 hc0_1;have HR2:=A0_ hr2;have HC2:=A0_ hc2;clear hr2 hc2
 have HB:=A0_ (Below.refl w.heap.size w)
 have H:(spec_l9Cover.l0 k a1 l2 0 l0_0 l0_1 (([]:List Int)) (([]:List Int)))=some (r1,r2):=h
 clear h
 obtain⟨y445,hy445⟩ : ∃ y_:List Int,y_=(([]:List Int)):=⟨_,rfl⟩
 replace H:(spec_l9Cover.l0 k a1 l2 0 l0_0 l0_1 y445 (([]:List Int)))=some (r1,r2):=zH hy445 H
 have Ny445:=A0_ hy445;clear hy445
 obtain⟨y448,hy448⟩ : ∃ y_:List Int,y_=(([]:List Int)):=⟨_,rfl⟩
 replace H:(spec_l9Cover.l0 k a1 l2 0 l0_0 l0_1 y445 y448)=some (r1,r2):=zH hy448 H
 have Ny448:=A0_ hy448;clear hy448;have H':=A0_ H;clear H
 go_enter Try.func58,Try.ntmps58
 go_wp2_with (first|((with_reducible refine gD (N:=3) rfl ?_);refine zX (N:=3) (cs := #[.slice A0_0 l0_0.length c0_0,.slice A0_1 l0_1.length c0_1]) (t:=25) ?_;intro gb443 hg w4 hbox hb;have BK443:=A0_ (hbox);have GW443:=zG hg HB;have GE443:=zG hg HB;replace HB:=zB HB hb;clear hb hbox hg)|((with_reducible refine gD (N:=6) rfl ?_);refine zX (N:=6) (cs := #[.slice none 0 0,.slice none 0 0]) (t:=25) ?_;intro gb444 hg w5 hbox hb;have BK444:=A0_ (hbox);have GW444:=zG hg HB;have GE444:=zG hg HB;replace HB:=zB HB hb;have NB443_444:=zL hg BK443;have NB444_443:=zM hg BK443;replace BK443:=zK BK443 hb;clear hb hbox hg)|((with_reducible refine gD (N:=11) rfl ?_);refine Kd.R_lit (Kd.int .i64) _ 3 ?hg (N:=11) ?hd (xs:=([]:List Int)) (inner := []) (ok:=fun _=>True) (okp:=fun _=>True) ?hr ?hp (fun _ hk=>hk) trivial (Below.refl _ _) (Nat.le_refl _) (by simp) ?_;(case hd=>rfl);(case hg=>rfl);(case hr=>first|(go_simp;done)|(go_simp;rfl));(case hp=>exact(Reps.none _ _));intro v446 w6 ho7 hb hg_ hnew_;clear hg_ hnew_;(first|rw [← Ny445.out] at ho7|(simp only [Int.reduceToNat] at ho7;rw [← Ny445.out] at ho7));have HO447:=A0_ (rL ho7 (bZ (zB_ HB)));replace BK443:=zK BK443 hb;replace BK444:=zK BK444 hb;replace HB:=zB HB hb;clear hb ho7)|((with_reducible refine gD (N:=12) rfl ?_);refine Kd.R_lit (Kd.int .i64) _ 3 ?hg (N:=12) ?hd (xs:=([]:List Int)) (inner := []) (ok:=fun _=>True) (okp:=fun _=>True) ?hr ?hp (fun _ hk=>hk) trivial (Below.refl _ _) (Nat.le_refl _) (by simp) ?_;(case hd=>rfl);(case hg=>rfl);(case hr=>first|(go_simp;done)|(go_simp;rfl));(case hp=>exact(Reps.none _ _));intro v449 w8 ho9 hb hg_ hnew_;clear hg_ hnew_;(first|rw [← Ny448.out] at ho9|(simp only [Int.reduceToNat] at ho9;rw [← Ny448.out] at ho9));have HO450:=A0_ (rL (Kd.R_new' ho9 (rX (zR_ HO447))) (bZ (zB_ HB)));replace HO447:=A0_ (Kd.R_elder' (zR_ HO447) (Kd.R_base ho9) hb);replace BK443:=zK BK443 hb;replace BK444:=zK BK444 hb;replace HB:=zB HB hb;clear hb ho9;obtain⟨Ao10,co10,eo10⟩:=rS HO450.out;subst eo10;obtain⟨Ao11,co11,eo11⟩:=rS HO447.out;subst eo11)|((with_reducible refine gD (N:=7) rfl ?_);refine zX (N:=7) (cs := #[.slice none 0 0,.slice none 0 0]) (t:=25) ?_;intro gb451 hg w12 hbox hb;replace HO447:=zR HO447 hb;replace HO450:=zR HO450 hb;have BK451:=A0_ (hbox);have GW451:=zG hg HB;have GE451:=zG hg HB;replace HB:=zB HB hb;have NB443_451:=zL hg BK443;have NB451_443:=zM hg BK443;replace BK443:=zK BK443 hb;have NB444_451:=zL hg BK444;have NB451_444:=zM hg BK444;replace BK444:=zK BK444 hb;clear hb hbox hg;have hnb13:=NB451_443.out;have hnc13:=NB443_451.out;have hnb14:=NB451_444.out;have hnc14:=NB444_451.out;have hcz15_0:=zc0 BK451;have hcz15_1:=zc1 BK451;have hfz15_0:=kF BK451.out 0;have hfz15_1:=kF BK451.out 1))
 go_loopg [8] k (fun kq v8 w' => ∃ (x8_1:Int) (x452000_1:List Int) (x452001_1:List Int) (u452000:Value) (u452001:Value),v8 = .int .i64 x8_1∧Aside0 (spec_l9Cover.l0 kq a1 l2 x8_1 l0_0 l0_1 x452000_1 x452001_1=some (r1,r2))∧Aside0 (kq≤k)∧Aside0 (Kd.R (Kd.int .i64) 3 w' w.heap.size (fun k_=>some k_≠(u452001:Value).ownBlock) u452000 x452000_1)∧Aside0 (Kd.R (Kd.int .i64) 3 w' w.heap.size (fun k_=>some k_≠(u452000:Value).ownBlock) u452001 x452001_1)∧Aside0 (w'.heap[gb443]? = some (.cells #[(.slice A0_0 l0_0.length c0_0),(.slice A0_1 l0_1.length c0_1)] 25 (0,0)))∧Aside0 (w'.heap[gb444]? = some (.cells #[(.slice none 0 0),(.slice none 0 0)] 25 (0,0)))∧Aside0 (w'.heap[gb451]? = some (.cells #[u452000,u452001] 25 (0,0)))∧Aside0 (Below w.heap.size w w'))
 case atStart=>exact⟨(0),(y445),(y448),(.slice Ao11 y445.length co11),(.slice Ao10 y448.length co10),zt,H',⟨Nat.le_refl _⟩,⟨by(with_reducible repeat(first|apply rA|apply rN|apply rD));exact rM (rF (p:=⟨gb451,1,none⟩) (rF (p:=⟨gb451,0,none⟩) (rY HO447.out BK451.out (by decide)) (fun _ hk=>hk.2) (.slice Ao11 y445.length co11)) (fun _ hk=>hk.2) (.slice Ao10 y448.length co10)) (fun _ hk=>hk.1.2)⟩,⟨by(with_reducible repeat(first|apply rA|apply rN|apply rD));exact rM (rF (p:=⟨gb451,1,none⟩) (rF (p:=⟨gb451,0,none⟩) (rY HO450.out BK451.out (by decide)) (fun _ hk=>hk.2) (.slice Ao11 y445.length co11)) (fun _ hk=>hk.2) (.slice Ao10 y448.length co10)) (fun _ hk=>hk.1.2)⟩,⟨by(with_reducible repeat(first|refine kN ?_ _|refine kD ?_|refine kA ?_ _));refine blk_far ?_ NB443_451.out _;(with_reducible repeat(first|refine kN ?_ _|refine kD ?_|refine kA ?_ _));refine blk_far ?_ NB443_451.out _;(with_reducible repeat(first|refine kN ?_ _|refine kD ?_|refine kA ?_ _));exact BK443.out⟩,⟨by(with_reducible repeat(first|refine kN ?_ _|refine kD ?_|refine kA ?_ _));refine blk_far ?_ NB444_451.out _;(with_reducible repeat(first|refine kN ?_ _|refine kD ?_|refine kA ?_ _));refine blk_far ?_ NB444_451.out _;(with_reducible repeat(first|refine kN ?_ _|refine kD ?_|refine kA ?_ _));exact BK444.out⟩,⟨by(with_reducible repeat(first|refine kN ?_ _|refine kD ?_|refine kA ?_ _));refine blk_put (cs := #[.slice Ao11 y445.length co11,.slice none 0 0]) ?_ 1 _ rfl;(with_reducible repeat(first|refine kN ?_ _|refine kD ?_|refine kA ?_ _));refine blk_put (cs := #[.slice none 0 0,.slice none 0 0]) ?_ 0 _ rfl;(with_reducible repeat(first|refine kN ?_ _|refine kD ?_|refine kA ?_ _));exact BK451.out⟩,⟨zB_ HB⟩⟩
 case round =>
  clear H';(try clear c1);(try clear c2);(try clear p2);(try clear c5);(try clear c13);(try clear c14);(try clear hcz15_0);(try clear hcz15_1);(try clear hfz15_0);(try clear hfz15_1);obtain⟨x8_1,x452000_1,x452001_1,u452000,u452001,rfl,HA,HK1,HO_452000,HO_452001,BK443,BK444,BK451,HB⟩:=hrel
  cases gk with
  | zero=>exact absurd HA.out (by simp [spec_l9Cover.l0])
  | succ k1 =>
   have H:=HA.out;clear HA;simp only [spec_l9Cover.l0] at H
   by_cases c16:x8_1<(l0_0.length:Int)
   ·rw [if_pos c16] at H
    have c16b0:=dT c16;clear c16;obtain⟨t452,A17,H⟩:=zbind H;have H':=A0_ H;clear H;have hnb18:=NB443_444.out;have hnc18:=NB444_443.out;have hnb19:=NB443_451.out;have hnc19:=NB451_443.out;have hcz20_0:=zc0 BK443;have hcz20_1:=zc1 BK443;have hfz20_0:=kF BK443.out 0;have hfz20_1:=kF BK443.out 1
    go_wp2_with (first|((with_reducible refine gC (f:=96) rfl ?_);refine zJ (some 24) Try.func96 #[.agg #[.slice A0_0 l0_0.length c0_0,.slice A0_1 l0_1.length c0_1],.slice A2 l2.length c2,.int .i64 x8_1] ?_;(with_reducible refine(spec_l9Volt.calls k1 _ _ l0_0 _ _ l0_1 (fun k_=>k_<w.heap.size) _ _ l2 x8_1 t452 _ ?side1 ?side2 ?side3 ?side4 ?side5 A17.out).mono ?_);(case side1=>exact zC HR0_0 HB);(case side2=>exact HC0_0.out);(case side3=>exact zC HR0_1 HB);(case side4=>exact HC0_1.out);(case side5=>exact Kd.V_mk HC2.out (Kd.F_below (Kd.C_F (Kd.heap_slice 3 (Kd.heap_int .i64)) HR2.out) (zB_ HB)));rintro e w21 ⟨v453,rfl,ho0,hb⟩;refine⟨_,rfl,?_⟩;have HO454:=A0_ (Kd.V_lower (Kd.V_mono (ok':=fun k_=>some k_≠(u452000:Value).ownBlock∧some k_≠(u452001:Value).ownBlock∧k_≠gb443∧k_≠gb444∧k_≠gb451) ho0 (fun k_ hk_=>⟨Or.elim hk_ (fun hs_=>fun e_=>Nat.not_le.2 hs_ (Kd.R_base HO_452000.out k_ e_.symm)) (fun hn_=>(Kd.fresh' (rX (zR_ HO_452000)) k_ hn_)),Or.elim hk_ (fun hs_=>fun e_=>Nat.not_le.2 hs_ (Kd.R_base HO_452001.out k_ e_.symm)) (fun hn_=>(Kd.fresh' (rX (zR_ HO_452001)) k_ hn_)),Or.elim hk_ (fun hs_=>fun e_=>Nat.not_le.2 hs_ (by rw [e_];exact GW443.out)) (fun hn_=>(Kd.freshB (g:=gb443) (o := .cells #[.slice A0_0 l0_0.length c0_0,.slice A0_1 l0_1.length c0_1] 25 (0,0)) (zK_ BK443) k_ hn_)),Or.elim hk_ (fun hs_=>fun e_=>Nat.not_le.2 hs_ (by rw [e_];exact GW444.out)) (fun hn_=>(Kd.freshB (g:=gb444) (o := .cells #[.slice none 0 0,.slice none 0 0] 25 (0,0)) (zK_ BK444) k_ hn_)),Or.elim hk_ (fun hs_=>fun e_=>Nat.not_le.2 hs_ (by rw [e_];exact GW451.out)) (fun hn_=>(Kd.freshB (g:=gb451) (o := .cells #[u452000,u452001] 25 (0,0)) (zK_ BK451) k_ hn_))⟩)) (bZ (zB_ HB)));replace HO_452000:=zR HO_452000 hb;replace HO_452001:=zR HO_452001 hb;replace BK443:=zK BK443 hb;replace BK444:=zK BK444 hb;replace BK451:=zK BK451 hb;replace HB:=zB HB hb;(try clear hb);(try clear ho0)))
    go_loopg [10] k1 (fun kq v10 w' => ∃ (x10_2:Int) (x452000_2:List Int) (x452001_2:List Int) (u452000:Value) (u452001:Value),v10 = .int .i64 x10_2∧Aside0 (spec_l9Cover.l1 kq a1 l2 x8_1 t452 x10_2 l0_0 l0_1 x452000_2 x452001_2=some (r1,r2))∧Aside0 (kq≤k1)∧Aside0 (Kd.V (Kd.int .i64) 3 w' w.heap.size (fun k_=>some k_≠(u452000:Value).ownBlock∧some k_≠(u452001:Value).ownBlock∧k_≠gb443∧k_≠gb444∧k_≠gb451) v453 t452)∧Aside0 (Kd.R (Kd.int .i64) 3 w' w.heap.size (fun k_=>some k_≠(u452001:Value).ownBlock) u452000 x452000_2)∧Aside0 (Kd.R (Kd.int .i64) 3 w' w.heap.size (fun k_=>some k_≠(u452000:Value).ownBlock) u452001 x452001_2)∧Aside0 (w'.heap[gb443]? = some (.cells #[(.slice A0_0 l0_0.length c0_0),(.slice A0_1 l0_1.length c0_1)] 25 (0,0)))∧Aside0 (w'.heap[gb444]? = some (.cells #[(.slice none 0 0),(.slice none 0 0)] 25 (0,0)))∧Aside0 (w'.heap[gb451]? = some (.cells #[u452000,u452001] 25 (0,0)))∧Aside0 (Below w.heap.size w w'))
    case atStart=>exact⟨(0),(x452000_1),(x452001_1),(u452000),(u452001),zt,H',⟨Nat.le_refl _⟩,⟨by(with_reducible repeat(first|apply Kd.V_alloc|apply Kd.V_drewN|apply Kd.V_drew));exact HO454.out⟩,⟨zR_ HO_452000⟩,⟨zR_ HO_452001⟩,⟨zK_ BK443⟩,⟨zK_ BK444⟩,⟨zK_ BK451⟩,⟨zB_ HB⟩⟩
    case round =>
     clear H';(try clear c1);(try clear c2);(try clear p2);(try clear c5);(try clear c9);(try clear c13);(try clear c14);(try clear c16);(try clear c16b0);(try clear c18);(try clear c19);(try clear hcz15_0);(try clear hcz15_1);(try clear hcz20_0);(try clear hcz20_1);(try clear hfz15_0);(try clear hfz15_1);(try clear hfz20_0);(try clear hfz20_1);(try clear p2);obtain⟨x10_2,x452000_2,x452001_2,u452000,u452001,rfl,HA,HK2,HO_9,HO_452000,HO_452001,BK443,BK444,BK451,HB⟩:=hrel
     cases gk with
     | zero=>exact absurd HA.out (by simp [spec_l9Cover.l1])
     | succ k2 =>
      have H:=HA.out;clear HA;simp only [spec_l9Cover.l1] at H
      by_cases c22:x10_2<a1
      ·rw [if_pos c22] at H
       have c22b0:=dT c22;clear c22
       have c23:=zpc H;replace H:=zph H
       have c23b0:=dT c23;clear c23
       have c24:=zpc H;replace H:=zph H
       have c24b0:=dT c24;clear c24
       have c25:=zpc H;replace H:=zph H
       have LMc25:=A0_ c25;clear c25
       obtain⟨y456,hy456⟩ : ∃ y_:List Int,y_=(x452000_2 ++ [wrap64 ((wrap64 (a1*(rd l0_0 x8_1)))+x10_2)]):=⟨_,rfl⟩
       replace H:(if x8_1<(l0_1.length:Int) then (if 0≤x10_2 then (if x10_2<(t452.length:Int) then (if x452001_2.length<17592186044416 then (spec_l9Cover.l1 k2 a1 l2 x8_1 t452 (wrap64 (x10_2+1)) l0_0 l0_1 y456 (x452001_2 ++ [wrap64 ((wrap64 (a1*(rd l0_1 x8_1)))+(rd t452 x10_2))])) else (none)) else (none)) else (none)) else (none))=some (r1,r2):=zH hy456 H
       have Ny456:=A0_ hy456;clear hy456
       have c26:=zpc H;replace H:=zph H
       have c26b0:=dT c26;clear c26
       have c27:=zpc H;replace H:=zph H
       have c27b0:=dT c27;clear c27
       have c28:=zpc H;replace H:=zph H
       have c28b0:=dT c28;clear c28
       have c29:=zpc H;replace H:=zph H
       have LMc29:=A0_ c29;clear c29
       obtain⟨y461,hy461⟩ : ∃ y_:List Int,y_=(x452001_2 ++ [wrap64 ((wrap64 (a1*(rd l0_1 x8_1)))+(rd t452 x10_2))]):=⟨_,rfl⟩
       replace H:(spec_l9Cover.l1 k2 a1 l2 x8_1 t452 (wrap64 (x10_2+1)) l0_0 l0_1 y456 y461)=some (r1,r2):=zH hy461 H
       have Ny461:=A0_ hy461;clear hy461;have H':=A0_ H;clear H
       try go_wp2
       replace HO_9:=A0_ (Kd.V_drew HO_9.out)
       replace HO_452000:=A0_ (rD HO_452000.out)
       replace HO_452001:=A0_ (rD HO_452001.out)
       replace BK443:=A0_ (kD BK443.out)
       replace BK444:=A0_ (kD BK444.out)
       replace BK451:=A0_ (kD BK451.out)
       replace HB:=A0_ (bD HB.out)
       have p455:0≤(x8_1:Int):=zd
       have q455:x8_1<(l0_0.length:Int):=zd
       obtain⟨ad455,e455,hx455_0⟩:=tI HR0_0.out x8_1 p455 q455;have hw455_0:=hx455_0
       cases e455
       try replace hx455_0:=(HB.out.cell (wL w _ hx455_0)).trans hx455_0
       replace p455:=eq_true p455;replace q455:=eq_true q455
       refine start_ (n:=15) (S:=fun w'=>w'.cell? ⟨gb451,0,none⟩=some (u452000)∧w'.cell? ⟨gb451,1,none⟩=some (u452001)∧w'.cell? ⟨gb443,0,none⟩=some (.slice (some ad455) l0_0.length c0_0)∧w'.cell? ⟨gb443,1,none⟩=some (.slice A0_1 l0_1.length c0_1)∧w'.cell? (ad455.add (x8_1).toNat)=some (.int .i64 (rd l0_0 x8_1))) (ds := [14]) (bs 15 0) (by kernel_rfl) rfl rfl ⟨(kC BK451.out 0).trans rfl,(kC BK451.out 1).trans rfl,(kC BK443.out 0).trans rfl,(kC BK443.out 1).trans rfl,((HB.out.cell (wL w _ hw455_0)).trans hw455_0)⟩ (fun hHeld => ?_);refine with_tabW spec_l9Cover.tab9 spec_l9Cover.bits9 (fun HT_ HW_ => ?_)
       generalize wr.drew=w30 at HO_9 HO_452000 HO_452001 BK443 BK444 BK451 HB hx455_0 hHeld ⊢
       refine zP 0 (some 30) (bs 15 1) ?_
       refine zP 2 (some 32) (bs 15 5) ?_
       refine zP 3 (some 33) (bs 15 13) ?_
       refine zP 5 (some 35) (bs 15 45) ?_
       refine zP 9 (some 39) (bs 15 557) ?_
       refine zT 1 (some 31) (bs 15 559) hHeld ?_
       refine zT 4 (some 34) (bs 15 575) hHeld ?_
       refine zP 6 (some 36) (bs 15 639) ?_
       refine zT 7 (some 37) (bs 15 767) hHeld ?_
       refine zP 8 (some 38) (bs 15 1023) ?_
       refine zP 10 (some 40) (bs 15 2047) ?_
       refine one_ (i:=11) (N:=some 41) (bs 15 4095) rfl rfl (one_of HT_.out (by kernel_rfl)) (by decide) (fun K hK => ?_)
       refine value_ (w1 := ?_) (v := ?_) (by rfl) rfl ?_ ?_
       rotate_left 2
       ·go_simp
        constructor
        ·rfl
        rfl
       refine hK.out _ _ ⟨(kC (kA BK451.out _) 0).trans rfl,(kC (kA BK451.out _) 1).trans rfl,(kC (kA BK443.out _) 0).trans rfl,(kC (kA BK443.out _) 1).trans rfl,(World.cell?_alloc_lt _ _ _ (wL _ _ (((HB.out.cell (wL w _ hw455_0)).trans hw455_0)))).trans (((HB.out.cell (wL w _ hw455_0)).trans hw455_0))⟩ (fun hHeld => ?_)
       clear hK K
       refine norm_ (a' := ?_) ?_ ?_
       rotate_left
       ·show Act.put _ (some 41) _=_
        simp only [Act.put,List.setIfInBounds_toArray,List.set_cons_zero,List.set_cons_succ,i64_w,i32_w]
        rfl
       refine one_ (i:=12) (N:=some 42) (bs 15 8191) rfl rfl (one_of HT_.out (by kernel_rfl)) (by decide) (fun K hK => ?_)
       refine Kd.R_append_step (Kd.int .i64) (w0:=w) w.heap.size (by rfl) (.tmp 31) (.tmp 41) 23 3 (.int .i64 0) 8 rfl Try.underlying23 info3 rfl (by decide) (by omega) u452000 x452000_2 (wrap64 ((wrap64 (a1*(rd l0_0 x8_1)))+x10_2)) [.int .i64 (wrap64 ((wrap64 (a1*(rd l0_0 x8_1)))+x10_2))] (fun k_=>some k_≠(u452001:Value).ownBlock) (fun _=>False) rfl rfl ?aP (fun _ hk=>hk.elim) ?aF ?aO ?aB ?aS ?aL ?_
       (case aP=>exact rfl)
       (case aB=>exact(zB_ HB))
       (case aF=>exact(fun k_ hk=>Kd.fresh' (rX (zR_ HO_452001)) k_ hk))
       (case aO=>exact(zR_ HO_452000))
       (case aS=>exact(bZ (zB_ HB)))
       (case aL=>have:=LMc25.out;omega)
       intro v457 w31 ho hb hg hat
       rw [← Ny456.out] at ho
       replace HO_9:=A0_ (Kd.V_afterv (ok:=(fun k_=>some k_≠(u452001:Value).ownBlock∧k_≠gb443∧k_≠gb444∧k_≠gb451)) (by(with_reducible repeat(first|apply Kd.V_alloc|apply Kd.V_drewN|apply Kd.V_drew));exact Kd.V_mono HO_9.out (fun _ hk=>⟨⟨hk.2.1,⟨hk.2.2.1,⟨hk.2.2.2.1,hk.2.2.2.2⟩⟩⟩,hk.1⟩)) hg hat)
       replace HO_452001:=A0_ (Kd.R_after (ok:=(fun _=>True)) (zmR HO_452001 (fun _ hk=>⟨trivial,hk⟩)) hg hat)
       replace BK443:=A0_ (blk_grown (g:=gb443) (o := .cells #[.slice (some ad455) l0_0.length c0_0,.slice A0_1 l0_1.length c0_1] 25 (0,0)) (zK_ BK443) hg (Kd.R_ne HO_452000.out BK443.out (by decide)))
       replace BK444:=A0_ (blk_grown (g:=gb444) (o := .cells #[.slice none 0 0,.slice none 0 0] 25 (0,0)) (zK_ BK444) hg (Kd.R_ne HO_452000.out BK444.out (by decide)))
       replace BK451:=A0_ (blk_grown (g:=gb451) (o := .cells #[u452000,u452001] 25 (0,0)) (zK_ BK451) hg (Kd.R_ne HO_452000.out BK451.out (by decide)))
       replace HB:=A0_ (hb)
       have HO458:=A0_ (ho)
       clear HO_452000 ho hb hg hat;obtain⟨Ao32,co32,eo32⟩:=rS HO458.out
       (first|subst eo32|(injection eo32 with f1_ f2_ f3_;have f4_:=f1_.symm;have f5_:=f3_.symm;clear f1_ f2_ f3_;subst f4_;subst f5_))
       refine hK.out _ _ ⟨(kC BK451.out 0).trans rfl,(kC BK451.out 1).trans rfl,(kC BK443.out 0).trans rfl,(kC BK443.out 1).trans rfl,((HB.out.cell (wL w _ hw455_0)).trans hw455_0)⟩ (fun hHeld => ?_)
       clear hK K
       refine norm_ (a' := ?_) ?_ ?_
       rotate_left
       ·show Act.put _ (some 42) _=_
        simp only [Act.put,List.setIfInBounds_toArray,List.set_cons_zero,List.set_cons_succ,i64_w,i32_w]
        rfl
       refine zP 13 (some 43) (bs 15 16383) ?_
       refine last_ (i:=14) (N:=none) (bs 15 32767) rfl rfl (one_of HT_.out (by kernel_rfl)) (by decide) (fun K hK => ?_)
       have hs33:w31.cell? ⟨gb451,0,none⟩=some (u452000):=(kC BK451.out 0).trans rfl
       have hfs33:=kF BK451.out 0;have hns33_0:=NB443_451.out;have hns33_1:=NB444_451.out;have hms33_0:=NB451_443.out;have hms33_1:=NB451_444.out
       refine skip_ (w1 := ?_) (by rfl) rfl ?_ ?_
       rotate_left
       ·go_simp
        rfl
       refine hK.out _ _ ?_
       clear hK K
       refine done_ (done_of HT_.out (by kernel_rfl)) ?_
       try go_wp2
       have n0_:Aside0 (Kd.V (Kd.int .i64) 3 (w31.setCell ⟨gb451,0,none⟩ (.slice Ao32 y456.length co32)) w.heap.size (fun k_=>some k_≠(u452001:Value).ownBlock∧some k_≠(.slice Ao32 y456.length co32:Value).ownBlock∧k_≠gb443∧k_≠gb444∧k_≠gb451) v453 t452):=⟨by(with_reducible repeat(first|apply Kd.V_alloc|apply Kd.V_drewN|apply Kd.V_drew));exact Kd.V_mono (Kd.V_far (p:=⟨gb451,0,none⟩) (Kd.V_mono HO_9.out (fun k_ hk=>(⟨hk,hk.1.2.2.2⟩:_∧k_≠gb451))) (fun _ hk=>hk.2) (.slice Ao32 y456.length co32)) (fun _ hk=>⟨hk.1.1.1,⟨hk.1.2,⟨hk.1.1.2.1,⟨hk.1.1.2.2.1,hk.1.1.2.2.2⟩⟩⟩⟩)⟩
       have n1_:Aside0 (Kd.R (Kd.int .i64) 3 (w31.setCell ⟨gb451,0,none⟩ (.slice Ao32 y456.length co32)) w.heap.size (fun k_=>some k_≠(.slice Ao32 y456.length co32:Value).ownBlock) u452001 x452001_2):=⟨by(with_reducible repeat(first|apply rA|apply rN|apply rD));exact rM (rF (p:=⟨gb451,0,none⟩) (rY HO_452001.out BK451.out (by decide)) (fun _ hk=>hk.2) (.slice Ao32 y456.length co32)) (fun _ hk=>hk.1.2)⟩
       have n2_:Aside0 (Kd.R (Kd.int .i64) 3 (w31.setCell ⟨gb451,0,none⟩ (.slice Ao32 y456.length co32)) w.heap.size (fun k_=>some k_≠(u452001:Value).ownBlock) (.slice Ao32 y456.length co32) y456):=⟨by(with_reducible repeat(first|apply rA|apply rN|apply rD));exact rM (rF (p:=⟨gb451,0,none⟩) (rY HO458.out BK451.out (by decide)) (fun _ hk=>hk.2) (.slice Ao32 y456.length co32)) (fun _ hk=>hk.1)⟩
       have n3_:Aside0 ((w31.setCell ⟨gb451,0,none⟩ (.slice Ao32 y456.length co32)).heap[gb443]? = some (.cells #[.slice (some ad455) l0_0.length c0_0,.slice A0_1 l0_1.length c0_1] 25 (0,0))):=⟨by(with_reducible repeat(first|refine kN ?_ _|refine kD ?_|refine kA ?_ _));refine blk_far ?_ NB443_451.out _;(with_reducible repeat(first|refine kN ?_ _|refine kD ?_|refine kA ?_ _));exact BK443.out⟩
       have n4_:Aside0 ((w31.setCell ⟨gb451,0,none⟩ (.slice Ao32 y456.length co32)).heap[gb444]? = some (.cells #[.slice none 0 0,.slice none 0 0] 25 (0,0))):=⟨by(with_reducible repeat(first|refine kN ?_ _|refine kD ?_|refine kA ?_ _));refine blk_far ?_ NB444_451.out _;(with_reducible repeat(first|refine kN ?_ _|refine kD ?_|refine kA ?_ _));exact BK444.out⟩
       have n5_:Aside0 ((w31.setCell ⟨gb451,0,none⟩ (.slice Ao32 y456.length co32)).heap[gb451]? = some (.cells #[.slice Ao32 y456.length co32,u452001] 25 (0,0))):=⟨by(with_reducible repeat(first|refine kN ?_ _|refine kD ?_|refine kA ?_ _));refine blk_put (cs := #[u452000,u452001]) ?_ 0 _ rfl;(with_reducible repeat(first|refine kN ?_ _|refine kD ?_|refine kA ?_ _));exact BK451.out⟩
       have n6_:Aside0 (Below w.heap.size w (w31.setCell ⟨gb451,0,none⟩ (.slice Ao32 y456.length co32))):=⟨zB_ HB⟩
       (try clear HO_9);(try clear HO_452001);(try clear HO458);(try clear BK443);(try clear BK444);(try clear BK451);(try clear HB)
       generalize (w31.setCell ⟨gb451,0,none⟩ (.slice Ao32 y456.length co32))=w34 at n0_ n1_ n2_ n3_ n4_ n5_ n6_ ⊢
       have HO_9:=n0_;have HO_452001:=n1_;have HO458:=n2_;have BK443:=n3_;have BK444:=n4_;have BK451:=n5_;have HB:=n6_;clear n0_ n1_ n2_ n3_ n4_ n5_ n6_
       replace HO_9:=A0_ (Kd.V_drew HO_9.out)
       replace HO_452001:=A0_ (rD HO_452001.out)
       replace HO458:=A0_ (rD HO458.out)
       replace BK443:=A0_ (kD BK443.out)
       replace BK444:=A0_ (kD BK444.out)
       replace BK451:=A0_ (kD BK451.out)
       replace HB:=A0_ (bD HB.out)
       have p459:0≤(x8_1:Int):=zd
       have q459:x8_1<(l0_1.length:Int):=zd
       obtain⟨ad459,e459,hx459_0⟩:=tI HR0_1.out x8_1 p459 q459;have hw459_0:=hx459_0
       cases e459
       try replace hx459_0:=(HB.out.cell (wL w _ hx459_0)).trans hx459_0
       replace p459:=eq_true p459;replace q459:=eq_true q459;obtain⟨Ao36,co36,eo36⟩:=Kd.V_slice HO_9.out
       (first|subst eo36|(injection eo36 with f1_ f2_ f3_;have f4_:=f1_.symm;have f5_:=f3_.symm;clear f1_ f2_ f3_;subst f4_;subst f5_))
       have p460:0≤(x10_2:Int):=zd
       have q460:x10_2<(t452.length:Int):=zd
       obtain⟨ad460,e460,hx460_0⟩:=tI (Kd.V_reads' HO_9.out).2.2 x10_2 p460 q460
       cases e460
       replace p460:=eq_true p460;replace q460:=eq_true q460
       refine start_ (n:=18) (S:=fun w'=>w'.cell? ⟨gb451,0,none⟩=some (.slice Ao32 y456.length co32)∧w'.cell? ⟨gb451,1,none⟩=some (u452001)∧w'.cell? ⟨gb443,0,none⟩=some (.slice (some ad455) l0_0.length c0_0)∧w'.cell? ⟨gb443,1,none⟩=some (.slice (some ad459) l0_1.length c0_1)∧w'.cell? (ad459.add (x8_1).toNat)=some (.int .i64 (rd l0_1 x8_1))∧w'.cell? (ad460.add (x10_2).toNat)=some (.int .i64 (rd t452 x10_2))) (ds := [15,17]) (bs 18 0) (by kernel_rfl) rfl rfl ⟨(kC BK451.out 0).trans rfl,(kC BK451.out 1).trans rfl,(kC BK443.out 0).trans rfl,(kC BK443.out 1).trans rfl,((HB.out.cell (wL w _ hw459_0)).trans hw459_0),hx460_0⟩ (fun hHeld => ?_);refine with_tabW spec_l9Cover.tab10 spec_l9Cover.bits10 (fun HT_ HW_ => ?_)
       generalize w34.drew=w35 at HO_9 HO_452001 HO458 BK443 BK444 BK451 HB hx459_0 hx460_0 hHeld ⊢
       refine zP 0 (some 44) (bs 18 1) ?_
       refine zP 2 (some 46) (bs 18 5) ?_
       refine zP 3 (some 47) (bs 18 13) ?_
       refine zP 5 (some 49) (bs 18 45) ?_
       refine zP 9 (some 53) (bs 18 557) ?_
       refine zP 10 (some 54) (bs 18 1581) ?_
       refine zP 11 (some 55) (bs 18 3629) ?_
       refine zT 1 (some 45) (bs 18 3631) hHeld ?_
       refine zT 4 (some 48) (bs 18 3647) hHeld ?_
       refine zP 6 (some 50) (bs 18 3711) ?_
       refine zT 7 (some 51) (bs 18 3839) hHeld ?_
       refine zP 8 (some 52) (bs 18 4095) ?_
       refine zT 12 (some 56) (bs 18 8191) hHeld ?_
       refine zP 13 (some 57) (bs 18 16383) ?_
       refine one_ (i:=14) (N:=some 58) (bs 18 32767) rfl rfl (one_of HT_.out (by kernel_rfl)) (by decide) (fun K hK => ?_)
       refine value_ (w1 := ?_) (v := ?_) (by rfl) rfl ?_ ?_
       rotate_left 2
       ·go_simp
        constructor
        ·rfl
        rfl
       refine hK.out _ _ ⟨(kC (kA BK451.out _) 0).trans rfl,(kC (kA BK451.out _) 1).trans rfl,(kC (kA BK443.out _) 0).trans rfl,(kC (kA BK443.out _) 1).trans rfl,(World.cell?_alloc_lt _ _ _ (wL _ _ (((HB.out.cell (wL w _ hw459_0)).trans hw459_0)))).trans (((HB.out.cell (wL w _ hw459_0)).trans hw459_0)),(World.cell?_alloc_lt _ _ _ (wL _ _ (hHeld.2.2.2.2.2))).trans (hHeld.2.2.2.2.2)⟩ (fun hHeld => ?_)
       clear hK K
       refine norm_ (a' := ?_) ?_ ?_
       rotate_left
       ·show Act.put _ (some 58) _=_
        simp only [Act.put,List.setIfInBounds_toArray,List.set_cons_zero,List.set_cons_succ,i64_w,i32_w]
        rfl
       refine last_ (i:=15) (N:=some 59) (bs 18 65535) rfl rfl (one_of HT_.out (by kernel_rfl)) (by decide) (fun K hK => ?_)
       refine Kd.R_append_step (Kd.int .i64) (w0:=w) w.heap.size (by rfl) (.tmp 45) (.tmp 58) 23 3 (.int .i64 0) 8 rfl Try.underlying23 info3 rfl (by decide) (by omega) u452001 x452001_2 (wrap64 ((wrap64 (a1*(rd l0_1 x8_1)))+(rd t452 x10_2))) [.int .i64 (wrap64 ((wrap64 (a1*(rd l0_1 x8_1)))+(rd t452 x10_2)))] (fun k_=>some k_≠(.slice Ao32 y456.length co32:Value).ownBlock) (fun _=>False) rfl rfl ?aP (fun _ hk=>hk.elim) ?aF ?aO ?aB ?aS ?aL ?_
       (case aP=>exact rfl)
       (case aB=>exact(zB_ HB))
       (case aF=>exact(fun k_ hk=>Kd.fresh' (rX (zR_ HO458)) k_ hk))
       (case aO=>exact(zR_ HO_452001))
       (case aS=>exact(bZ (zB_ HB)))
       (case aL=>have:=LMc29.out;omega)
       intro v462 w37 ho hb hg hat
       rw [← Ny461.out] at ho
       replace HO_9:=A0_ (Kd.V_afterv (ok:=(fun k_=>some k_≠(.slice Ao32 y456.length co32:Value).ownBlock∧k_≠gb443∧k_≠gb444∧k_≠gb451)) (by(with_reducible repeat(first|apply Kd.V_alloc|apply Kd.V_drewN|apply Kd.V_drew));exact Kd.V_mono HO_9.out (fun _ hk=>⟨⟨hk.2.1,⟨hk.2.2.1,⟨hk.2.2.2.1,hk.2.2.2.2⟩⟩⟩,hk.1⟩)) hg hat)
       replace BK443:=A0_ (blk_grown (g:=gb443) (o := .cells #[.slice (some ad455) l0_0.length c0_0,.slice (some ad459) l0_1.length c0_1] 25 (0,0)) (zK_ BK443) hg (Kd.R_ne HO_452001.out BK443.out (by decide)))
       replace BK444:=A0_ (blk_grown (g:=gb444) (o := .cells #[.slice none 0 0,.slice none 0 0] 25 (0,0)) (zK_ BK444) hg (Kd.R_ne HO_452001.out BK444.out (by decide)))
       replace BK451:=A0_ (blk_grown (g:=gb451) (o := .cells #[.slice Ao32 y456.length co32,u452001] 25 (0,0)) (zK_ BK451) hg (Kd.R_ne HO_452001.out BK451.out (by decide)))
       replace HO458:=A0_ (Kd.R_after (ok:=(fun _=>True)) (zmR HO458 (fun _ hk=>⟨trivial,hk⟩)) hg hat)
       replace HB:=A0_ (hb)
       have HO463:=A0_ (ho)
       clear HO_452001 ho hb hg hat;obtain⟨Ao38,co38,eo38⟩:=rS HO463.out
       (first|subst eo38|(injection eo38 with f1_ f2_ f3_;have f4_:=f1_.symm;have f5_:=f3_.symm;clear f1_ f2_ f3_;subst f4_;subst f5_))
       refine hK.out _ _ ?_
       clear hK K
       refine norm_ (a' := ?_) ?_ ?_
       rotate_left
       ·show Act.put _ (some 59) _=_
        simp only [Act.put,List.setIfInBounds_toArray,List.set_cons_zero,List.set_cons_succ,i64_w,i32_w]
        rfl
       refine zP 16 (some 60) (bs 18 131071) ?_
       refine last_ (i:=17) (N:=none) (bs 18 262143) rfl rfl (one_of HT_.out (by kernel_rfl)) (by decide) (fun K hK => ?_)
       have hs39:w37.cell? ⟨gb451,1,none⟩=some (u452001):=(kC BK451.out 1).trans rfl
       have hfs39:=kF BK451.out 1;have hns39_0:=NB443_451.out;have hns39_1:=NB444_451.out;have hms39_0:=NB451_443.out;have hms39_1:=NB451_444.out
       refine skip_ (w1 := ?_) (by rfl) rfl ?_ ?_
       rotate_left
       ·go_simp
        rfl
       refine hK.out _ _ ?_
       clear hK K
       refine done_ (done_of HT_.out (by kernel_rfl)) ?_
       try go_wp2
       go_roundg k2
       case measure=>have:=HK1.out;have:=HK2.out;omega
       case rel=>exact⟨(wrap64 (x10_2+1)),(y456),(y461),(.slice Ao32 y456.length co32),(.slice Ao38 y461.length co38),zt,H',⟨by have:=HK1.out;have:=HK2.out;omega⟩,⟨by(with_reducible repeat(first|apply Kd.V_alloc|apply Kd.V_drewN|apply Kd.V_drew));exact Kd.V_mono (Kd.V_far (p:=⟨gb451,1,none⟩) (Kd.V_mono HO_9.out (fun k_ hk=>(⟨hk,hk.1.2.2.2⟩:_∧k_≠gb451))) (fun _ hk=>hk.2) (.slice Ao38 y461.length co38)) (fun _ hk=>⟨hk.1.1.1,⟨hk.1.2,⟨hk.1.1.2.1,⟨hk.1.1.2.2.1,hk.1.1.2.2.2⟩⟩⟩⟩)⟩,⟨by(with_reducible repeat(first|apply rA|apply rN|apply rD));exact rM (rF (p:=⟨gb451,1,none⟩) (rY HO458.out BK451.out (by decide)) (fun _ hk=>hk.2) (.slice Ao38 y461.length co38)) (fun _ hk=>hk.1.2)⟩,⟨by(with_reducible repeat(first|apply rA|apply rN|apply rD));exact rM (rF (p:=⟨gb451,1,none⟩) (rY HO463.out BK451.out (by decide)) (fun _ hk=>hk.2) (.slice Ao38 y461.length co38)) (fun _ hk=>hk.1)⟩,⟨by(with_reducible repeat(first|refine kN ?_ _|refine kD ?_|refine kA ?_ _));refine blk_far ?_ NB443_451.out _;(with_reducible repeat(first|refine kN ?_ _|refine kD ?_|refine kA ?_ _));exact BK443.out⟩,⟨by(with_reducible repeat(first|refine kN ?_ _|refine kD ?_|refine kA ?_ _));refine blk_far ?_ NB444_451.out _;(with_reducible repeat(first|refine kN ?_ _|refine kD ?_|refine kA ?_ _));exact BK444.out⟩,⟨by(with_reducible repeat(first|refine kN ?_ _|refine kD ?_|refine kA ?_ _));refine blk_put (cs := #[.slice Ao32 y456.length co32,u452001]) ?_ 1 _ rfl;(with_reducible repeat(first|refine kN ?_ _|refine kD ?_|refine kA ?_ _));exact BK451.out⟩,⟨zB_ HB⟩⟩
      rw [if_neg c22] at H;have c22b0:=dF c22;clear c22;have H':=A0_ H;clear H
      go_wp2
      go_roundg k2
      case measure=>have:=HK1.out;have:=HK2.out;omega
      case rel=>exact⟨(wrap64 (x8_1+1)),(x452000_2),(x452001_2),(u452000),(u452001),zt,H',⟨by have:=HK1.out;have:=HK2.out;omega⟩,⟨zR_ HO_452000⟩,⟨zR_ HO_452001⟩,⟨zK_ BK443⟩,⟨zK_ BK444⟩,⟨zK_ BK451⟩,⟨zB_ HB⟩⟩
   rw [if_neg c16] at H;have c16b0:=dF c16;clear c16;simp only [Option.some.injEq,Prod.mk.injEq] at H;obtain⟨rfl,rfl⟩:=H;have hnb40:=NB443_444.out;have hnc40:=NB444_443.out;have hnb41:=NB443_451.out;have hnc41:=NB451_443.out;have hcz42_0:=zc0 BK443;have hcz42_1:=zc1 BK443;have hfz42_0:=kF BK443.out 0;have hfz42_1:=kF BK443.out 1;have hnb43:=NB451_444.out;have hnc43:=NB444_451.out;have hcz44_0:=zc0 BK451;have hcz44_1:=zc1 BK451;have hfz44_0:=kF BK451.out 0;have hfz44_1:=kF BK451.out 1;obtain⟨Ao45,co45,eo45⟩:=rS HO_452000.out;subst eo45;have hcz46_0:=zc0 BK444;have hcz46_1:=zc1 BK444;have hfz46_0:=kF BK444.out 0;have hfz46_1:=kF BK444.out 1;obtain⟨Ao47,co47,eo47⟩:=rS HO_452001.out;subst eo47
   go_wp2
   refine bodyPost_ret (results_cell_row rfl _ _ gb444 25 #[.slice Ao45 x452000_1.length co45,.slice Ao47 x452001_1.length co47] (0,0) _ rfl (by(with_reducible repeat(first|refine kN ?_ _|refine kD ?_|refine kA ?_ _));refine blk_put (cs := #[.slice Ao45 x452000_1.length co45,.slice none 0 0]) ?_ 1 _ rfl;(with_reducible repeat(first|refine kN ?_ _|refine kD ?_|refine kA ?_ _));refine blk_put (cs := #[.slice none 0 0,.slice none 0 0]) ?_ 0 _ rfl;(with_reducible repeat(first|refine kN ?_ _|refine kD ?_|refine kA ?_ _));exact BK444.out) Try.underlying25 rfl (by kernel_rfl)) rfl ?_
   exact⟨_,_,by first|rfl|(simp [*] <;> rfl),zF HO_452000 BK444 (.slice Ao45 x452000_1.length co45) (.slice Ao47 x452001_1.length co47) 0 1,zF HO_452001 BK444 (.slice Ao45 x452000_1.length co45) (.slice Ao47 x452001_1.length co47) 0 1,zB_ HB⟩

/-! ### spec_CoverWhole: function 13 -/
def spec_CoverWhole.f (k:Nat) (l0_0:List Int) (l0_1:List Int) (a1:Int) (l2:List (List Int)):Option (Bool):=(spec_VoltageValid.f k l0_0 l0_1 a1 l2).bind fun t465=>(if t465=true then ((spec_l9Cover.f k l0_0 l0_1 a1 l2).bind fun bt466=>((spec_MapValid.f k bt466.1 bt466.2).bind fun t472=>(some t472))) else (some false))
set_option maxHeartbeats 8000000 in
set_option maxRecDepth 100000 in
theorem spec_CoverWhole.calls (k:Nat) (A0_0:Option Addr) (c0_0:Nat) (l0_0:List Int) (A0_1:Option Addr) (c0_1:Nat) (l0_1:List Int) (a1:Int) (A2:Option Addr) (c2:Nat) (l2:List (List Int)) (r:Bool) (w:World) (hr0_0:Kd.C (Kd.int .i64) w A0_0 l0_0.length l0_0) (hc0_0:l0_0.length≤c0_0) (hr0_1:Kd.C (Kd.int .i64) w A0_1 l0_1.length l0_1) (hc0_1:l0_1.length≤c0_1) (hr2:Kd.C (Kd.slice 3 (Kd.int .i64)) w A2 l2.length l2) (hc2:l2.length≤c2) (h:spec_CoverWhole.f k l0_0 l0_1 a1 l2=some r) :
    Calls Try.prog 13 #[.agg #[.slice A0_0 l0_0.length c0_0,.slice A0_1 l0_1.length c0_1],.int .i64 a1,.slice A2 l2.length c2] w fun e w'=>e = .returned (.bool r)∧Below w.heap.size w w':=by
 have hu25:=Try.underlying25;have HR0_0:=A0_ hr0_0;have HC0_0:=A0_ hc0_0;clear hr0_0 hc0_0;have HR0_1:=A0_ hr0_1;have HC0_1:=A0_ hc0_1;clear hr0_1 hc0_1;have HR2:=A0_ hr2;have HC2:=A0_ hc2;clear hr2 hc2
 have HB:=A0_ (Below.refl w.heap.size w)
 have H:((spec_VoltageValid.f k l0_0 l0_1 a1 l2).bind fun t465=>(if t465=true then ((spec_l9Cover.f k l0_0 l0_1 a1 l2).bind fun bt466=>((spec_MapValid.f k bt466.1 bt466.2).bind fun t472=>(some t472))) else (some false)))=some r:=h
 clear h;obtain⟨t465,A4,H⟩:=zbind H
 by_cases c5:t465=true
 ·subst c5
  rw [if_pos rfl] at H;obtain⟨⟨t466,t469⟩,A6,H⟩:=zbind H;dsimp only at H;obtain⟨t472,A7,H⟩:=zbind H;obtain rfl:=sI H
  go_enter Try.func13,Try.ntmps13
  go_wp2_with (first|((with_reducible refine gD (N:=3) rfl ?_);refine zX (N:=3) (cs := #[.slice A0_0 l0_0.length c0_0,.slice A0_1 l0_1.length c0_1]) (t:=25) ?_;intro gb464 hg w8 hbox hb;have BK464:=A0_ (hbox);have GW464:=zG hg HB;have GE464:=zG hg HB;replace HB:=zB HB hb;clear hb hbox hg;have hcz9_0:=zc0 BK464;have hcz9_1:=zc1 BK464;have hfz9_0:=kF BK464.out 0;have hfz9_1:=kF BK464.out 1)|((with_reducible refine gC (f:=56) rfl ?_);refine zJ (some 10) Try.func56 #[.agg #[.slice A0_0 l0_0.length c0_0,.slice A0_1 l0_1.length c0_1],.int .i64 a1,.slice A2 l2.length c2] ?_;(with_reducible refine(spec_VoltageValid.calls k _ _ l0_0 _ _ l0_1 a1 _ _ l2 true _ ?side1 ?side2 ?side3 ?side4 ?side5 ?side6 A4.out).mono ?_);(case side1=>exact zC HR0_0 HB);(case side2=>exact HC0_0.out);(case side3=>exact zC HR0_1 HB);(case side4=>exact HC0_1.out);(case side5=>exact zC HR2 HB);(case side6=>exact HC2.out);rintro e w10 ⟨rfl,hb⟩;refine⟨_,rfl,?_⟩;replace BK464:=zK BK464 hb;replace HB:=zB HB hb;(try clear hb);have hcz11_0:=zc0 BK464;have hcz11_1:=zc1 BK464;have hfz11_0:=kF BK464.out 0;have hfz11_1:=kF BK464.out 1)|(go_at_call 58;(with_reducible refine(spec_l9Cover.calls k _ _ l0_0 _ _ l0_1 a1 _ _ l2 t466 t469 _ ?side1 ?side2 ?side3 ?side4 ?side5 ?side6 A6.out).mono ?_);(case side1=>exact zC HR0_0 HB);(case side2=>exact HC0_0.out);(case side3=>exact zC HR0_1 HB);(case side4=>exact HC0_1.out);(case side5=>exact zC HR2 HB);(case side6=>exact HC2.out);rintro e w12 ⟨v467,v470,rfl,ho0,ho1,hb⟩;have HO468:=A0_ (rL ho0 (bZ (zB_ HB)));have HO471:=A0_ (rL ho1 (bZ (zB_ HB)));replace BK464:=zK BK464 hb;replace HB:=zB HB hb;(try clear hb);(try clear ho0);(try clear ho1);obtain⟨Ao13,co13,eo13⟩:=rS HO468.out;subst eo13;obtain⟨Ao14,co14,eo14⟩:=rS HO471.out;subst eo14)|(go_at_call 57;(with_reducible refine(spec_MapValid.calls k _ _ t466 _ _ t469 t472 _ ?side1 ?side2 ?side3 ?side4 A7.out).mono ?_);(case side1=>exact zD HO468);(case side2=>exact(rR HO468.out).2.1);(case side3=>exact zD HO471);(case side4=>exact(rR HO471.out).2.1);rintro e w15 ⟨rfl,hb⟩;replace HO468:=zR HO468 hb;replace HO471:=zR HO471 hb;replace BK464:=zK BK464 hb;replace HB:=zB HB hb;(try clear hb)))
  go_ret
  exact⟨by first|rfl|(simp [*] <;> rfl),zB_ HB⟩
 replace c5:=Bool.eq_false_iff.mpr c5;subst c5
 rw [if_neg (show ¬ (false=true) by decide)] at H
 obtain rfl:=sI H
 go_enter Try.func13,Try.ntmps13
 go_wp2_with (first|((with_reducible refine gD (N:=3) rfl ?_);refine zX (N:=3) (cs := #[.slice A0_0 l0_0.length c0_0,.slice A0_1 l0_1.length c0_1]) (t:=25) ?_;intro gb464 hg w16 hbox hb;have BK464:=A0_ (hbox);have GW464:=zG hg HB;have GE464:=zG hg HB;replace HB:=zB HB hb;clear hb hbox hg;have hcz17_0:=zc0 BK464;have hcz17_1:=zc1 BK464;have hfz17_0:=kF BK464.out 0;have hfz17_1:=kF BK464.out 1)|((with_reducible refine gC (f:=56) rfl ?_);refine zJ (some 10) Try.func56 #[.agg #[.slice A0_0 l0_0.length c0_0,.slice A0_1 l0_1.length c0_1],.int .i64 a1,.slice A2 l2.length c2] ?_;(with_reducible refine(spec_VoltageValid.calls k _ _ l0_0 _ _ l0_1 a1 _ _ l2 false _ ?side1 ?side2 ?side3 ?side4 ?side5 ?side6 A4.out).mono ?_);(case side1=>exact zC HR0_0 HB);(case side2=>exact HC0_0.out);(case side3=>exact zC HR0_1 HB);(case side4=>exact HC0_1.out);(case side5=>exact zC HR2 HB);(case side6=>exact HC2.out);rintro e w18 ⟨rfl,hb⟩;refine⟨_,rfl,?_⟩;replace BK464:=zK BK464 hb;replace HB:=zB HB hb;(try clear hb)))
 go_ret
 exact⟨by first|rfl|(simp [*] <;> rfl),zB_ HB⟩

/-! ### spec_CoverMap: function 41 -/
def spec_CoverMap.f (k:Nat) (l0_0:List Int) (l0_1:List Int) (a1:Int) (l2:List (List Int)):Option (List Int×List Int×Bool):=(spec_CoverWhole.f k l0_0 l0_1 a1 l2).bind fun t475=>(if t475=true then ((spec_l9Cover.f k l0_0 l0_1 a1 l2).bind fun bt476=>(some (bt476.1,bt476.2,true))) else (some (([]:List Int),([]:List Int),false)))
set_option maxHeartbeats 8000000 in
set_option maxRecDepth 100000 in
theorem spec_CoverMap.calls (k:Nat) (A0_0:Option Addr) (c0_0:Nat) (l0_0:List Int) (A0_1:Option Addr) (c0_1:Nat) (l0_1:List Int) (a1:Int) (A2:Option Addr) (c2:Nat) (l2:List (List Int)) (r1:List Int) (r2:List Int) (r3:Bool) (w:World) (hr0_0:Kd.C (Kd.int .i64) w A0_0 l0_0.length l0_0) (hc0_0:l0_0.length≤c0_0) (hr0_1:Kd.C (Kd.int .i64) w A0_1 l0_1.length l0_1) (hc0_1:l0_1.length≤c0_1) (hr2:Kd.C (Kd.slice 3 (Kd.int .i64)) w A2 l2.length l2) (hc2:l2.length≤c2) (h:spec_CoverMap.f k l0_0 l0_1 a1 l2=some (r1,r2,r3)) :
    Calls Try.prog 41 #[.agg #[.slice A0_0 l0_0.length c0_0,.slice A0_1 l0_1.length c0_1],.int .i64 a1,.slice A2 l2.length c2] w fun e w' => ∃ v0_ v1_:Value,e = .returned (.tuple #[.agg #[v0_,v1_],.bool r3])∧Kd.R (Kd.int .i64) 3 w' w.heap.size (fun k_=>some k_≠(v1_:Value).ownBlock) v0_ r1∧Kd.R (Kd.int .i64) 3 w' w.heap.size (fun k_=>some k_≠(v0_:Value).ownBlock) v1_ r2∧Below w.heap.size w w':=by
 have hu25:=Try.underlying25;have HR0_0:=A0_ hr0_0;have HC0_0:=A0_ hc0_0;clear hr0_0 hc0_0;have HR0_1:=A0_ hr0_1;have HC0_1:=A0_ hc0_1;clear hr0_1 hc0_1;have HR2:=A0_ hr2;have HC2:=A0_ hc2;clear hr2 hc2
 have HB:=A0_ (Below.refl w.heap.size w)
 have H:((spec_CoverWhole.f k l0_0 l0_1 a1 l2).bind fun t475=>(if t475=true then ((spec_l9Cover.f k l0_0 l0_1 a1 l2).bind fun bt476=>(some (bt476.1,bt476.2,true))) else (some (([]:List Int),([]:List Int),false))))=some (r1,r2,r3):=h
 clear h;obtain⟨t475,A4,H⟩:=zbind H
 by_cases c5:t475=true
 ·subst c5
  have H1:((spec_l9Cover.f k l0_0 l0_1 a1 l2).bind fun bt476=>(some (bt476.1,bt476.2,true)))=some (r1,r2,r3):=by rw [if_pos rfl] at H;exact H
  clear H;have H:=H1;clear H1;obtain⟨⟨t476,t479⟩,A6,H⟩:=zbind H;dsimp only at H;simp only [Option.some.injEq,Prod.mk.injEq] at H;obtain⟨rfl,rfl,rfl⟩:=H
  go_enter Try.func41,Try.ntmps41
  go_wp2_with (first|((with_reducible refine gD (N:=3) rfl ?_);refine zX (N:=3) (cs := #[.slice A0_0 l0_0.length c0_0,.slice A0_1 l0_1.length c0_1]) (t:=25) ?_;intro gb473 hg w7 hbox hb;have BK473:=A0_ (hbox);have GW473:=zG hg HB;have GE473:=zG hg HB;replace HB:=zB HB hb;clear hb hbox hg)|((with_reducible refine gD (N:=6) rfl ?_);refine zX (N:=6) (cs := #[.slice none 0 0,.slice none 0 0]) (t:=25) ?_;intro gb474 hg w8 hbox hb;have BK474:=A0_ (hbox);have GW474:=zG hg HB;have GE474:=zG hg HB;replace HB:=zB HB hb;have NB473_474:=zL hg BK473;have NB474_473:=zM hg BK473;replace BK473:=zK BK473 hb;clear hb hbox hg;have hnb9:=NB473_474.out;have hnc9:=NB474_473.out;have hcz10_0:=zc0 BK473;have hcz10_1:=zc1 BK473;have hfz10_0:=kF BK473.out 0;have hfz10_1:=kF BK473.out 1)|((with_reducible refine gC (f:=13) rfl ?_);refine zJ (some 11) Try.func13 #[.agg #[.slice A0_0 l0_0.length c0_0,.slice A0_1 l0_1.length c0_1],.int .i64 a1,.slice A2 l2.length c2] ?_;(with_reducible refine(spec_CoverWhole.calls k _ _ l0_0 _ _ l0_1 a1 _ _ l2 true _ ?side1 ?side2 ?side3 ?side4 ?side5 ?side6 A4.out).mono ?_);(case side1=>exact zC HR0_0 HB);(case side2=>exact HC0_0.out);(case side3=>exact zC HR0_1 HB);(case side4=>exact HC0_1.out);(case side5=>exact zC HR2 HB);(case side6=>exact HC2.out);rintro e w11 ⟨rfl,hb⟩;refine⟨_,rfl,?_⟩;replace BK473:=zK BK473 hb;replace BK474:=zK BK474 hb;replace HB:=zB HB hb;(try clear hb);have hcz12_0:=zc0 BK473;have hcz12_1:=zc1 BK473;have hfz12_0:=kF BK473.out 0;have hfz12_1:=kF BK473.out 1)|((with_reducible refine gC (f:=58) rfl ?_);refine zJ (some 17) Try.func58 #[.agg #[.slice A0_0 l0_0.length c0_0,.slice A0_1 l0_1.length c0_1],.int .i64 a1,.slice A2 l2.length c2] ?_;(with_reducible refine(spec_l9Cover.calls k _ _ l0_0 _ _ l0_1 a1 _ _ l2 t476 t479 _ ?side1 ?side2 ?side3 ?side4 ?side5 ?side6 A6.out).mono ?_);(case side1=>exact zC HR0_0 HB);(case side2=>exact HC0_0.out);(case side3=>exact zC HR0_1 HB);(case side4=>exact HC0_1.out);(case side5=>exact zC HR2 HB);(case side6=>exact HC2.out);rintro e w13 ⟨v477,v480,rfl,ho0,ho1,hb⟩;refine⟨_,rfl,?_⟩;have HO478:=A0_ (rL ho0 (bZ (zB_ HB)));have HO481:=A0_ (rL ho1 (bZ (zB_ HB)));replace BK473:=zK BK473 hb;replace BK474:=zK BK474 hb;replace HB:=zB HB hb;(try clear hb);(try clear ho0);(try clear ho1);obtain⟨Ao14,co14,eo14⟩:=rS HO478.out;subst eo14;have hcz15_0:=zc0 BK474;have hcz15_1:=zc1 BK474;have hfz15_0:=kF BK474.out 0;have hfz15_1:=kF BK474.out 1;obtain⟨Ao16,co16,eo16⟩:=rS HO481.out;subst eo16))
  refine bodyPost_ret (results_ct rfl _ _ gb474 25 #[.slice Ao14 t476.length co14,.slice Ao16 t479.length co16] (0,0) _ rfl (by(with_reducible repeat(first|refine kN ?_ _|refine kD ?_|refine kA ?_ _));refine blk_put (cs := #[.slice Ao14 t476.length co14,.slice none 0 0]) ?_ 1 _ rfl;(with_reducible repeat(first|refine kN ?_ _|refine kD ?_|refine kA ?_ _));refine blk_put (cs := #[.slice none 0 0,.slice none 0 0]) ?_ 0 _ rfl;(with_reducible repeat(first|refine kN ?_ _|refine kD ?_|refine kA ?_ _));exact BK474.out) Try.underlying25 rfl (by kernel_rfl)) rfl ?_
  exact⟨_,_,by first|rfl|(simp [*] <;> rfl),zF HO478 BK474 (.slice Ao14 t476.length co14) (.slice Ao16 t479.length co16) 0 1,zF HO481 BK474 (.slice Ao14 t476.length co14) (.slice Ao16 t479.length co16) 0 1,zB_ HB⟩
 replace c5:=Bool.eq_false_iff.mpr c5;subst c5
 have H1:(some (([]:List Int),([]:List Int),false))=some (r1,r2,r3):=by rw [if_neg (show ¬ (false=true) by decide)] at H;exact H
 clear H;have H:=H1;clear H1;simp only [Option.some.injEq,Prod.mk.injEq] at H;obtain⟨rfl,rfl,rfl⟩:=H
 go_enter Try.func41,Try.ntmps41
 go_wp2_with (first|((with_reducible refine gD (N:=3) rfl ?_);refine zX (N:=3) (cs := #[.slice A0_0 l0_0.length c0_0,.slice A0_1 l0_1.length c0_1]) (t:=25) ?_;intro gb473 hg w17 hbox hb;have BK473:=A0_ (hbox);have GW473:=zG hg HB;have GE473:=zG hg HB;replace HB:=zB HB hb;clear hb hbox hg)|((with_reducible refine gD (N:=6) rfl ?_);refine zX (N:=6) (cs := #[.slice none 0 0,.slice none 0 0]) (t:=25) ?_;intro gb474 hg w18 hbox hb;have BK474:=A0_ (hbox);have GW474:=zG hg HB;have GE474:=zG hg HB;replace HB:=zB HB hb;have NB473_474:=zL hg BK473;have NB474_473:=zM hg BK473;replace BK473:=zK BK473 hb;clear hb hbox hg;have hnb19:=NB473_474.out;have hnc19:=NB474_473.out;have hcz20_0:=zc0 BK473;have hcz20_1:=zc1 BK473;have hfz20_0:=kF BK473.out 0;have hfz20_1:=kF BK473.out 1)|((with_reducible refine gC (f:=13) rfl ?_);refine zJ (some 11) Try.func13 #[.agg #[.slice A0_0 l0_0.length c0_0,.slice A0_1 l0_1.length c0_1],.int .i64 a1,.slice A2 l2.length c2] ?_;(with_reducible refine(spec_CoverWhole.calls k _ _ l0_0 _ _ l0_1 a1 _ _ l2 false _ ?side1 ?side2 ?side3 ?side4 ?side5 ?side6 A4.out).mono ?_);(case side1=>exact zC HR0_0 HB);(case side2=>exact HC0_0.out);(case side3=>exact zC HR0_1 HB);(case side4=>exact HC0_1.out);(case side5=>exact zC HR2 HB);(case side6=>exact HC2.out);rintro e w21 ⟨rfl,hb⟩;refine⟨_,rfl,?_⟩;replace BK473:=zK BK473 hb;replace BK474:=zK BK474 hb;replace HB:=zB HB hb;(try clear hb);have hcz22_0:=zc0 BK474;have hcz22_1:=zc1 BK474;have hfz22_0:=kF BK474.out 0;have hfz22_1:=kF BK474.out 1))
 refine bodyPost_ret (results_ct rfl _ _ gb474 25 #[.slice none 0 0,.slice none 0 0] (0,0) _ rfl (by(with_reducible repeat(first|refine kN ?_ _|refine kD ?_|refine kA ?_ _));refine blk_put (cs := #[.slice none 0 0,.slice none 0 0]) ?_ 1 _ rfl;(with_reducible repeat(first|refine kN ?_ _|refine kD ?_|refine kA ?_ _));refine blk_put (cs := #[.slice none 0 0,.slice none 0 0]) ?_ 0 _ rfl;(with_reducible repeat(first|refine kN ?_ _|refine kD ?_|refine kA ?_ _));exact BK474.out) Try.underlying25 rfl (by kernel_rfl)) rfl ?_
 exact⟨_,_,by first|rfl|(simp [*] <;> rfl),by first|exact Kd.R_nil _ _ _ _ _|exact Kd.N_nil _ _ _ _ _|exact Kd.V_nil _ _ _ _ _|exact Kd.Q_nil _ _ _ _ _|exact Kd.S_nil _ _ _ _ _,by first|exact Kd.R_nil _ _ _ _ _|exact Kd.N_nil _ _ _ _ _|exact Kd.V_nil _ _ _ _ _|exact Kd.Q_nil _ _ _ _ _|exact Kd.S_nil _ _ _ _ _,zB_ HB⟩

end Go.Proofs.Ytmegggomhjgehaa.PFnCover
