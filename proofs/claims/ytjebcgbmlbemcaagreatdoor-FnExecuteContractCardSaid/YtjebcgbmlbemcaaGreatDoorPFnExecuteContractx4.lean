import Derived.Test.YtjebcgbmlbemcaaGreatDoorPFnExecuteContractx2
import Derived.Test.YtjebcgbmlbemcaaGreatDoorPFnExecuteContractx3
namespace Go.Proofs.YtjebcgbmlbemcaaGreatDoor.PFnExecuteContract
open Go.RowKit Go.Proofs.YtjebcgbmlbemcaaGreatDoorW.PrintWords Go.Proofs.YtjebcgbmlbemcaaGreatDoorW.PrintLast Go.Proofs.YtjebcgbmlbemcaaGreatDoorW.PrintMore
set_option maxHeartbeats 8000000
set_option maxRecDepth 100000
attribute [local go_sem] max2_int min2_int max_two min_two max_three min_three max_four min_four
set_option linter.unusedVariables false
set_option linter.unusedSimpArgs false
mutual
def ie_.l0:Nat→List Int→Int→List Int→List Int→Int→Int→List Int→List Int→List Bool→Option (List Int)
  | 0,_,_,_,_,_,_,_,_,_=>none
  | k+1,x1,x5,x7,af,aj,ab,ag,aa,ah=>if ab<aj then (if 0≤ab then (if ab<(af.length:Int) then ((ia_.f k ag aa).bind fun ac=>(if 0≤(rd af ab) then (if (rd af ab)<(ac.length:Int) then (if 0≤(rd ac (rd af ab)) then (if (rd ac (rd af ab))<(aa.length:Int) then (if (rd ac (rd af ab))<(ah.length:Int) then (if 0≤(rd aa (rd ac (rd af ab))) then (if (rd aa (rd ac (rd af ab)))<(ah.length:Int) then (if (rd ac (rd af ab))<(x7.length:Int) then (if (rd aa (rd ac (rd af ab)))<(x7.length:Int) then (ie_.l0 k x1 x5 ((x7.set ((rd ac (rd af ab)):Int).toNat (rd aa (rd ac (rd af ab)))).set ((rd aa (rd ac (rd af ab))):Int).toNat (rd ac (rd af ab))) af aj (wrap64 (ab+1)) ag aa ((ah.set ((rd ac (rd af ab)):Int).toNat true).set ((rd aa (rd ac (rd af ab))):Int).toNat true)) else (none)) else (none)) else (none)) else (none)) else (none)) else (none)) else (none)) else (none)) else (none))) else (none)) else (none)) else ((id_.f k (([ag,x7]:List (List Int)))).bind fun ai=>(ie_.l1 k x1 x5 x7 0 ai (ai.length:Int) 0 ag aa ah))
def ie_.l1:Nat→List Int→Int→List Int→Int→List Int→Int→Int→List Int→List Int→List Bool→Option (List Int)
  | 0,_,_,_,_,_,_,_,_,_,_=>none
  | k+1,x1,x5,x7,ah,ag,ai,af,aa,ab,ac=>if af<ai then (if 0≤af then (if af<(ag.length:Int) then (if af=(rd ag af) then (ie_.l1 k x1 x5 x7 (wrap64 (ah+1)) ag ai (wrap64 (af+1)) aa ab ac) else (ie_.l1 k x1 x5 x7 ah ag ai (wrap64 (af+1)) aa ab ac)) else (none)) else (none)) else ((i9_.f k aa).bind fun aj=>(ie_.l2 k x1 x5 x7 ah 0 aj (aj.length:Int) 0 aa ab ac))
def ie_.l2:Nat→List Int→Int→List Int→Int→Int→List (List Int)→Int→Int→List Int→List Int→List Bool→Option (List Int)
  | 0,_,_,_,_,_,_,_,_,_,_,_=>none
  | k+1,x1,x5,x7,ah,ai,ag,aj,af,ab,ac,aa=>if af<aj then (if 0≤af then (if af<(ag.length:Int) then ((sn_.f (rd_L1 ag af) aa).bind fun ak=>(if ak=true then (ie_.l2 k x1 x5 x7 ah ai ag aj (wrap64 (af+1)) ab ac aa) else (ie_.l2 k x1 x5 x7 ah (wrap64 (ai+1)) ag aj (wrap64 (af+1)) ab ac aa))) else (none)) else (none)) else (if 0≤x5 then (if (x5:Int).toNat≤281474976710656 then (ie_.l3 k x1 x7 ah ai (List.replicate (x5:Int).toNat false) x5 0 ab ac aa) else (none)) else (none))
def ie_.l3:Nat→List Int→List Int→Int→Int→List Bool→Int→Int→List Int→List Int→List Bool→Option (List Int)
  | 0,_,_,_,_,_,_,_,_,_,_=>none
  | k+1,x1,x7,af,ai,aj,ak,ab,ac,ag,aa=>if ab<ak then (if 0≤ab then (if ab<(aa.length:Int) then (if rdOf false aa ab=true then (if ab<(aj.length:Int) then (ie_.j4 k x1 x7 af ai aj ab ak ab (rdOf false aj ab) ac ag aa) else (none)) else (ie_.j4 k x1 x7 af ai aj ab ak ab true ac ag aa)) else (none)) else (none)) else ((i9_.f k ac).bind fun ah=>(some (([af,ai,wrap64 ((ah.length:Int) - af),wrap64 ((x1.length:Int) - (wrap64 ((ah.length:Int) - af))),wrap64 (Int.tdiv (wrap64 ((wrap64 ((wrap64 ((wrap64 (2*af)) - (ah.length:Int)))+(x1.length:Int))) - ai)) 2)]:List Int))))
def ie_.j4:Nat→List Int→List Int→Int→Int→List Bool→Int→Int→Int→Bool→List Int→List Int→List Bool→Option (List Int)
  | 0,_,_,_,_,_,_,_,_,_,_,_,_=>none
  | k+1,x1,x7,af,ag,ah,al,ai,aj,ak,aa,ab,ac=>if ak=true then (ie_.l3 k x1 x7 af ag ah ai (wrap64 (aj+1)) aa ab ac) else (ie_.l4 k x1 x7 af (wrap64 (ag+1)) ah al ai aj aa ab ac)
def ie_.l4:Nat→List Int→List Int→Int→Int→List Bool→Int→Int→Int→List Int→List Int→List Bool→Option (List Int)
  | 0,_,_,_,_,_,_,_,_,_,_,_=>none
  | k+1,x1,x7,ah,ai,ag,ab,aj,ak,aa,ac,af=>if 0≤ab then (if ab<(ag.length:Int) then (if rdOf false ag ab=true then (ie_.l3 k x1 x7 ah ai ag aj (wrap64 (ak+1)) aa ac af) else (if ab<(x7.length:Int) then (if 0≤(rd x7 ab) then (if (rd x7 ab)<(aa.length:Int) then (ie_.l5 k x1 x7 ah ai (ag.set (ab:Int).toNat true) (rd aa (rd x7 ab)) aj ak aa ac af) else (none)) else (none)) else (none))) else (none)) else (none)
def ie_.l5:Nat→List Int→List Int→Int→Int→List Bool→Int→Int→Int→List Int→List Int→List Bool→Option (List Int)
  | 0,_,_,_,_,_,_,_,_,_,_,_=>none
  | k+1,x1,x7,ag,ah,ai,ac,aj,ak,aa,af,ab=>if 0≤ac then (if ac<(ab.length:Int) then (if rdOf false ab ac=true then (ie_.l4 k x1 x7 ag ah ai ac aj ak aa af ab) else (if ac<(aa.length:Int) then (ie_.l5 k x1 x7 ag ah ai (rd aa ac) aj ak aa af ab) else (none))) else (none)) else (none)
end
def ie_.f (k:Nat) (aa:List Int) (ab:List Int) (l1:List Int):Option (List Int):=if 0≤(aa.length:Int) then (if ((aa.length:Int):Int).toNat≤281474976710656 then ((if_.f k (aa.length:Int)).bind fun ac=>(ie_.l0 k l1 (aa.length:Int) ac l1 (l1.length:Int) 0 aa ab (List.replicate ((aa.length:Int):Int).toNat false))) else (none)) else (none)
def ie_.T9:Bool×List (List Nat×List Nat):=(true,[([],[]),([],[]),([],[]),([],[]),([0,1,0,1],[0,1]),([4,0,1],[4]),([2,3,0,1,2,3,4,5],[2,3]),([6,5,0,1,2,3,4,5],[6])])
def ie_.B9:List Nat := [0,0,0,0,3,19,63,127]
theorem ie_.tab9:rtab .any (opsOf Tryz.f40 9)=ie_.T9:=by kernel_rfl
theorem ie_.bits9:waitsOk ie_.T9.2 ie_.B9=true:=by kernel_rfl
def ie_.T35:Bool×List (List Nat×List Nat):=(true,[([],[]),([0],[0]),([],[]),([],[]),([2,3],[2,3]),([4],[4]),([1,5],[1,5]),([6],[6]),([7,0,1,2,3,4,5,6,7],[3,7])])
def ie_.B35:List Nat := [0,1,0,0,12,28,63,127,255]
theorem ie_.tab35:rtab .any (opsOf Tryz.f40 35)=ie_.T35:=by kernel_rfl
theorem ie_.bits35:waitsOk ie_.T35.2 ie_.B35=true:=by kernel_rfl
theorem ie_.calls (k:Nat) (P0_0_:Nat→Prop) (az:Option Addr) (aw:Nat) (af:List Int) (aT:Option Addr) (aJ:Nat) (ak:List Int) (A1:Option Addr) (c1:Nat) (l1:List Int) (r:List Int) (w:World) (eP:Kd.V (Kd.int .i64) 3 w w.heap.size (fun k_=>P0_0_ k_) (.slice az af.length aw) af) (dU:Kd.C (Kd.int .i64) w aT ak.length ak) (dV:ak.length≤aJ) (fk:Kd.C (Kd.int .i64) w A1 l1.length l1) (fl:l1.length≤c1) (h:ie_.f k af ak l1=some r) :
    Calls Tryz.prog 40 #[.agg #[.slice az af.length aw,.slice aT ak.length aJ],.slice A1 l1.length c1] w fun e w' => ∃ v0_:Value,e = .returned (v0_)∧Kd.R (Kd.int .i64) 3 w' w.heap.size (fun k_=>(w.heap.size≤k_)) v0_ r∧Below w.heap.size w w':=by
 have iz:=Tryz.underlying25
 have ba:=A0_ (show Kd.V (Kd.int .i64) 3 w w.heap.size (fun k_=>(P0_0_ k_∨w.heap.size≤k_)) (.slice az af.length aw) af from Kd.V_mono eP (fun k_ hk => .inl hk))
 have dW:=A0_ dU;have eQ:=A0_ dV;clear dU dV;have gR:=A0_ fk;have iV:=A0_ fl;clear fk fl
 have HB:=A0_ (Below.refl w.heap.size w)
 have H:(if 0≤(af.length:Int) then (if ((af.length:Int):Int).toNat≤281474976710656 then ((if_.f k (af.length:Int)).bind fun cq=>(ie_.l0 k l1 (af.length:Int) cq l1 (l1.length:Int) 0 af ak (List.replicate ((af.length:Int):Int).toNat false))) else (none)) else (none))=some r:=h
 clear h
 have c3:=zpc H;replace H:=zph H
 have bY:=eq_true c3;have b5:=dT c3;clear c3
 have c4:=zpc H;replace H:=zph H
 have b6:=eq_true c4;have b7:=dT c4;clear c4
 obtain⟨cr,cV⟩ : ∃ y_:List Bool,y_=(List.replicate ((af.length:Int):Int).toNat false):=⟨_,rfl⟩
 replace H:((if_.f k (af.length:Int)).bind fun cq=>(ie_.l0 k l1 (af.length:Int) cq l1 (l1.length:Int) 0 af ak cr))=some r:=zH cV H
 have dX:=A0_ cV;clear cV;obtain⟨cq,A5,H⟩:=zbind H;have H':=A0_ H;clear H
 go_enter Tryz.func40,Tryz.ntmps40
 go_wp2_with (first|((with_reducible refine gD (N:=2) rfl ?_);refine zX (N:=2) (cs := #[.slice az af.length aw,.slice aT ak.length aJ]) (t:=25) ?_;intro au hg w6 hbox hb;replace ba:=A0_ (Kd.V_below (Kd.V_elderB (by(with_reducible repeat(first|apply Kd.V_alloc|apply Kd.V_drewN|apply Kd.V_drew));exact ba.out) au (Nat.le_of_eq hg.symm)) hb);have ac:=A0_ (hbox);have hG:=zG hg HB;have eR:=zG hg HB;replace HB:=zB HB hb;clear hb hbox hg;have bf:=zc0 ac;have bg:=zc1 ac;have bh:=kF ac.out 0;have bi:=kF ac.out 1)|((with_reducible refine gD (N:=27) rfl ?_);refine Kd.R_make Kd.bool _ 4 rfl (N:=27) rfl 97 _ _ rfl (af.length:Int) rfl rfl Tryz.underlying97 (.bool false) 1 info4 rfl (by decide) (by omega) false (ok:=fun _=>True) (okp:=fun _=>True) rfl (fun _ hk=>hk) trivial (zd) (Nat.le_trans (Nat.mul_le_mul_right _ (zd:(af.length:Int).toNat≤281474976710656)) (by omega)) (Below.refl _ _) (Nat.le_refl _) ?_;intro iA w8 cS hb hg_ hnew_;clear hg_ hnew_;(first|rw [← dX.out] at cS|(simp only [Int.reduceToNat] at cS;rw [← dX.out] at cS));replace ba:=A0_ (Kd.V_elder' (by(with_reducible repeat(first|apply Kd.V_alloc|apply Kd.V_drewN|apply Kd.V_drew));exact ba.out) (Kd.R_base cS) hb);have bR:=A0_ (rL (Kd.R_newM (M:=fun k_=>(w.heap.size≤k_)) cS (bZ (zB_ HB)) (fun k_ h_=>h_)) (bZ (zB_ HB)));replace ac:=zK ac hb;replace HB:=zB HB hb;clear hb cS)|((with_reducible refine gD (N:=6) rfl ?_);refine zX (N:=6) (cs := #[.slice none 0 0]) (t:=97) ?_;intro an hg w10 hbox hb;replace ba:=A0_ (Kd.V_below (Kd.V_elderB (by(with_reducible repeat(first|apply Kd.V_alloc|apply Kd.V_drewN|apply Kd.V_drew));exact ba.out) an (Nat.le_of_eq hg.symm)) hb);replace bR:=zR bR hb;have ah:=A0_ (hbox);have hH:=zG hg HB;have eS:=zG hg HB;replace HB:=zB HB hb;have aE:=zL hg ac;have aH:=zM hg ac;replace ac:=zK ac hb;clear hb hbox hg;obtain⟨cW,cX,fI⟩:=rS bR.out;subst fI;have hJ:=aH.out;have hL:=aE.out;have a6:w10.cell? ⟨an,0,none⟩=some (.slice none 0 0):=(kC ah.out 0).trans rfl;have a7:=kF ah.out 0)|((with_reducible refine gC (f:=83) rfl ?_);refine zJ (some 29) Tryz.func83 #[.int .i64 (af.length:Int)] ?_;(with_reducible refine(if_.calls k (af.length:Int) cq _ A5.out).mono ?_);rintro e w14 ⟨cK,rfl,aQ,hb⟩;refine⟨_,rfl,?_⟩;replace ba:=A0_ (Kd.V_elder' (by(with_reducible repeat(first|apply Kd.V_alloc|apply Kd.V_drewN|apply Kd.V_drew));exact(Kd.V_mono (Kd.V_far (p:=⟨an,0,none⟩) (Kd.V_mono ba.out (fun k_ hk=>(⟨hk,hk.2⟩:_∧k_≠an))) (fun _ hk=>hk.2) (.slice cW cr.length cX)) (fun _ h_=>h_.1))) (Kd.R_base aQ) hb);replace bR:=A0_ (rB (by(with_reducible repeat(first|apply rA|apply rN|apply rD));exact(rM (rF (p:=⟨an,0,none⟩) (rY bR.out ah.out (by decide)) (fun _ hk=>hk.2) (.slice cW cr.length cX)) (fun _ h_=>h_.1))) hb);have eT:=A0_ (rL (Kd.R_newM (M:=fun k_=>(w.heap.size≤k_)) aQ (bZ (zB_ HB)) (fun k_ h_=>h_)) (bZ (zB_ HB)));replace ac:=A0_ (kB (g:=au) (o := .cells #[.slice az af.length aw,.slice aT ak.length aJ] 25 (0,0)) (by refine zbf ?_ _ (hp:=by exact aE.out);exact zK_ ac) hb);replace ah:=A0_ (kB (g:=an) (o := .cells #[.slice cW cr.length cX] 97 (0,0)) (by refine zbp (cs := #[.slice none 0 0]) ?_ 0 _ rfl;exact zK_ ah) hb);replace HB:=zB HB hb;(try clear hb);(try clear aQ)))
 go_loopg [32] k (fun kq v32 w' => ∃ (aj:List Int) (ag:Int) (ai:List Bool) (u168000:Value),v32 = .int .i64 ag∧Aside0 (ie_.l0 kq l1 (af.length:Int) aj l1 (l1.length:Int) ag af ak ai=some r)∧Aside0 (kq≤k)∧Aside0 (Kd.R (Kd.int .i64) 3 w' w.heap.size (fun k_=>(w.heap.size≤k_)) cK aj)∧Aside0 (Kd.V (Kd.int .i64) 3 w' w.heap.size (fun k_=>(P0_0_ k_∨w.heap.size≤k_)∧nO k_ cK∧nO k_ u168000∧k_≠au∧k_≠an) (.slice az af.length aw) af)∧Aside0 (Kd.R Kd.bool 4 w' w.heap.size (fun k_=>(w.heap.size≤k_)) u168000 ai)∧Aside0 (w'.heap[au]? = some (.cells #[(.slice az af.length aw),(.slice aT ak.length aJ)] 25 (0,0)))∧Aside0 (w'.heap[an]? = some (.cells #[u168000] 97 (0,0)))∧Aside0 (Below w.heap.size w w'))
 case atStart=>exact⟨(cq),(0),(cr),(.slice cW cr.length cX),zt,H',⟨Nat.le_refl _⟩,⟨zmR eT (fun _ hk=>hk.1)⟩,⟨by(with_reducible repeat(first|apply Kd.V_alloc|apply Kd.V_drewN|apply Kd.V_drew));exact Kd.V_mono ba.out (fun _ hk=>⟨hk.1.1.1.1,⟨hk.2,⟨hk.1.1.2,⟨hk.1.1.1.2,hk.1.2⟩⟩⟩⟩)⟩,⟨zmR bR (fun _ hk=>hk.1)⟩,⟨zK_ ac⟩,⟨zK_ ah⟩,⟨zB_ HB⟩⟩
 case round =>
  clear H';(try clear c1);(try clear c3);(try clear bY);(try clear b5);(try clear c4);(try clear b6);(try clear b7);(try clear a6);(try clear bf);(try clear bg);(try clear a7);(try clear bh);(try clear bi);obtain⟨aj,ag,ai,u168000,rfl,HA,aY,am,ab,aa,ac,ah,HB⟩:=hrel
  cases gk with
  | zero=>exact absurd HA.out (by simp [ie_.l0])
  | succ k1 =>
   have H:=HA.out;clear HA;simp only [ie_.l0] at H
   by_cases bJ:ag<(l1.length:Int)
   ·rw [if_pos bJ] at H
    have bz:=dT bJ;clear bJ
    have fm:=zpc H;replace H:=zph H
    have hM:=dT fm;clear fm
    have fo:=zpc H;replace H:=zph H
    have hO:=dT fo;clear fo;obtain⟨al,gT,H⟩:=zbind H
    have fp:=zpc H;replace H:=zph H
    have hP:=dT fp;clear fp
    have fq:=zpc H;replace H:=zph H
    have hQ:=dT fq;clear fq
    have fs:=zpc H;replace H:=zph H
    have hU:=dT fs;clear fs
    have ft:=zpc H;replace H:=zph H
    have hV:=dT ft;clear ft
    have fu:=zpc H;replace H:=zph H
    have hW:=dT fu;clear fu
    obtain⟨eh,cY⟩ : ∃ y_:List Bool,y_=(ai.set ((rd al (rd l1 ag)):Int).toNat true):=⟨_,rfl⟩
    replace H:(if 0≤(rd ak (rd al (rd l1 ag))) then (if (rd ak (rd al (rd l1 ag)))<(ai.length:Int) then (if (rd al (rd l1 ag))<(aj.length:Int) then (if (rd ak (rd al (rd l1 ag)))<(aj.length:Int) then (ie_.l0 k1 l1 (af.length:Int) ((aj.set ((rd al (rd l1 ag)):Int).toNat (rd ak (rd al (rd l1 ag)))).set ((rd ak (rd al (rd l1 ag))):Int).toNat (rd al (rd l1 ag))) l1 (l1.length:Int) (wrap64 (ag+1)) af ak (eh.set ((rd ak (rd al (rd l1 ag))):Int).toNat true)) else (none)) else (none)) else (none)) else (none))=some r:=zH cY H
    have eU:=A0_ cY;clear cY
    have fv:=zpc H;replace H:=zph H
    have hX:=dT fv;clear fv
    have fw:=zpc H;replace H:=zph H
    have hY:=dT fw;clear fw
    obtain⟨cL,cZ⟩ : ∃ y_:List Bool,y_=(eh.set ((rd ak (rd al (rd l1 ag))):Int).toNat true):=⟨_,rfl⟩
    replace H:(if (rd al (rd l1 ag))<(aj.length:Int) then (if (rd ak (rd al (rd l1 ag)))<(aj.length:Int) then (ie_.l0 k1 l1 (af.length:Int) ((aj.set ((rd al (rd l1 ag)):Int).toNat (rd ak (rd al (rd l1 ag)))).set ((rd ak (rd al (rd l1 ag))):Int).toNat (rd al (rd l1 ag))) l1 (l1.length:Int) (wrap64 (ag+1)) af ak cL) else (none)) else (none))=some r:=zH cZ H
    have eV:=A0_ cZ;clear cZ
    have fx:=zpc H;replace H:=zph H
    have hZ:=dT fx;clear fx
    obtain⟨dy,da⟩ : ∃ y_:List Int,y_=(aj.set ((rd al (rd l1 ag)):Int).toNat (rd ak (rd al (rd l1 ag)))):=⟨_,rfl⟩
    replace H:(if (rd ak (rd al (rd l1 ag)))<(aj.length:Int) then (ie_.l0 k1 l1 (af.length:Int) (dy.set ((rd ak (rd al (rd l1 ag))):Int).toNat (rd al (rd l1 ag))) l1 (l1.length:Int) (wrap64 (ag+1)) af ak cL) else (none))=some r:=zH da H
    have eW:=A0_ da;clear da
    have fy:=zpc H;replace H:=zph H
    have h4:=dT fy;clear fy
    obtain⟨dz,db⟩ : ∃ y_:List Int,y_=(dy.set ((rd ak (rd al (rd l1 ag))):Int).toNat (rd al (rd l1 ag))):=⟨_,rfl⟩
    replace H:(ie_.l0 k1 l1 (af.length:Int) dz l1 (l1.length:Int) (wrap64 (ag+1)) af ak cL)=some r:=zH db H
    have eX:=A0_ db;clear db;have H':=A0_ H;clear H
    have dA:0≤(ag:Int):=zd
    have dB:ag<(l1.length:Int):=zd
    obtain⟨h5,fJ,ct⟩:=tI gR.out ag dA dB
    cases fJ
    try replace ct:=(HB.out.cell (wL w _ ct)).trans ct
    replace dA:=eq_true dA;replace dB:=eq_true dB;have h6:=aE.out;have h7:=aH.out;have gz:=zc0 ac;have gE:=zc1 ac;have gF:=kF ac.out 0;have gG:=kF ac.out 1
    try go_wp2_with (first|((with_reducible refine gC (f:=48) rfl ?_);refine zJ (some 37) Tryz.func48 #[.agg #[.slice az af.length aw,.slice aT ak.length aJ]] ?_;(with_reducible refine(ia_.calls k1 _ _ af _ _ ak al _ ?aZ ?a4 ?cj ?ck gT.out).mono ?_);(case aZ=>repeat(first|exact(Kd.V_reads' ab.out).2.2|(with_reducible refine cA ?_ _)|(with_reducible refine cN ?_ _)|(with_reducible refine cD ?_)));(case a4=>exact(Kd.V_reads' ab.out).2.1);(case cj=>exact zC dW HB);(case ck=>exact eQ.out);rintro e w34 ⟨iB,rfl,aQ,hb⟩;refine⟨_,rfl,?_⟩;replace ab:=A0_ (Kd.V_elder' (by(with_reducible repeat(first|apply Kd.V_alloc|apply Kd.V_drewN|apply Kd.V_drew));exact ab.out) (Kd.R_base aQ) hb);replace aa:=zR aa hb;have aW:=A0_ (rL (Kd.R_new' (Kd.R_newM (M:=fun k_=>(w.heap.size≤k_)) aQ (bZ (zB_ HB)) (fun k_ h_=>h_)) (rX (zR_ am))) (bZ (zB_ HB)));replace am:=A0_ (Kd.R_elder' (zR_ am) (Kd.R_base aQ) hb);replace ac:=zK ac hb;replace ah:=zK ah hb;replace HB:=zB HB hb;(try clear hb);(try clear aQ);obtain⟨iC,b8,fK⟩:=rS aW.out;subst fK;have dC:0≤((rd l1 ag):Int):=zd;have dD:(rd l1 ag)<(al.length:Int):=zd;obtain⟨bB,fL,gH⟩:=tI (rR aW.out).2.2 (rd l1 ag) dC dD;cases fL;replace dC:=eq_true dC;replace dD:=eq_true dD;have gI:=zc0 ac;have gJ:=zc1 ac;have gK:=kF ac.out 0;have gL:=kF ac.out 1;have dE:0≤((rd al (rd l1 ag)):Int):=zd;have dG:(rd al (rd l1 ag))<(ak.length:Int):=zd;obtain⟨dc,fM,cu⟩:=tI dW.out (rd al (rd l1 ag)) dE dG;cases fM;try replace cu:=(HB.out.cell (wL w _ cu)).trans cu;replace dE:=eq_true dE;replace dG:=eq_true dG))
    replace am:=A0_ (rD am.out)
    replace ab:=A0_ (Kd.V_drew ab.out)
    replace aa:=A0_ (rD aa.out)
    replace aW:=A0_ (rD aW.out)
    replace ac:=A0_ (kD ac.out)
    replace ah:=A0_ (kD ah.out)
    replace HB:=A0_ (bD HB.out)
    have ei:0≤((rd al (rd l1 ag)):Int):=zd
    have ej:((rd al (rd l1 ag)):Int)<((ai.length:Int):Int):=zd
    obtain⟨ax,bC,ek,el,gl24,cl24,HG24⟩:=Kd.R_form aa.out (by omega)
    (first|cases ek|(injection ek with ea_ en_ ec_;(first|subst ea_|(injection ea_ with ea_;subst ea_));subst ec_;clear en_))
    have GB24:=A0_ el;have GG24:=A0_ HG24;clear el gl24 HG24
    obtain⟨em,en⟩:=Kd.R_celln false aa.out ((rd al (rd l1 ag)):Int) ei ej
    replace ei:=eq_true ei;replace ej:=eq_true ej
    have HP38:=Kd.R_putn aa.out ((rd al (rd l1 ag)):Int) true
    rw [← eU.out] at HP38
    have HQ38:=A0_ HP38;clear HP38
    have eo:0≤((rd ak (rd al (rd l1 ag))):Int):=zd
    have ep:((rd ak (rd al (rd l1 ag))):Int)<((ai.length:Int):Int):=zd
    obtain⟨eq,er⟩:=Kd.R_celln false HQ38.out ((rd ak (rd al (rd l1 ag))):Int) eo ep
    replace eo:=eq_true eo;replace ep:=eq_true ep
    have HP39:=Kd.R_putn HQ38.out ((rd ak (rd al (rd l1 ag))):Int) true
    rw [← eV.out] at HP39
    have HQ39:=A0_ HP39;clear HP39
    refine start_ (n:=8) (S:=fun w'=>w'.cell? ⟨an,0,none⟩=some (.slice (some ⟨ax,0,none⟩) ai.length bC)) (ds := [7]) (bs 8 0) (by kernel_rfl) rfl rfl ((kC ah.out 0).trans rfl) (fun hHeld => ?_);refine with_tabW ie_.tab9 ie_.bits9 (fun HT_ HW_ => ?_)
    generalize w34.drew=w37 at am ab aa aW ac ah HB GG24 HQ38 HQ39 en er em eq hHeld ⊢
    refine zP 1 (some 47) (bs 8 2) ?_
    refine zP 3 (some 49) (bs 8 10) ?_
    refine zT 0 (some 46) (bs 8 11) hHeld ?_
    refine zP 4 (some 50) (bs 8 27) ?_
    refine zT 2 (some 48) (bs 8 31) hHeld ?_
    refine one_ (i:=5) (N:=none) (bs 8 63) rfl rfl (one_of HT_.out (by kernel_rfl)) (by decide) (fun K hK => ?_)
    refine skip_ (w1 := ?_) (by rfl) rfl ?_ ?_
    rotate_left
    ·go_simp
     rfl
    refine hK.out _ _ ((cell_far (show an≠_ from(by have h_:=Kd.R_ne aa.out ah.out (by decide);intro e_;exact h_ (by rw [e_];rfl))) _).trans (hHeld)) (fun hHeld => ?_)
    clear hK K
    refine zP 6 (some 51) (bs 8 127) ?_
    refine last_ (i:=7) (N:=none) (bs 8 255) rfl rfl (one_of HT_.out (by kernel_rfl)) (by decide) (fun K hK => ?_)
    refine skip_ (w1 := ?_) (by rfl) rfl ?_ ?_
    rotate_left
    ·go_simp
     rfl
    refine hK.out _ _ ?_
    clear hK K
    refine done_ (done_of HT_.out (by kernel_rfl)) ?_
    have n0_:Aside0 (Kd.R (Kd.int .i64) 3 ((w37.setCell ⟨ax,((rd al (rd l1 ag)):Int).toNat,none⟩ (.bool true)).setCell ⟨ax,((rd ak (rd al (rd l1 ag))):Int).toNat,none⟩ (.bool true)) w.heap.size (fun k_=>(w.heap.size≤k_)∧nL k_ (some bB) al b8) cK aj):=⟨by(with_reducible repeat(first|apply rA|apply rN|apply rD));exact rM (rF (p:=⟨ax,((rd ak (rd al (rd l1 ag))):Int).toNat,none⟩) (rF (p:=⟨ax,((rd al (rd l1 ag)):Int).toNat,none⟩) (rY am.out GG24.out (by decide)) (fun _ hk=>hk.2) (.bool true)) (fun _ hk=>hk.2) (.bool true)) (fun _ hk=>⟨hk.1.1,hk.1.2⟩)⟩
    have n1_:Aside0 (Kd.V (Kd.int .i64) 3 ((w37.setCell ⟨ax,((rd al (rd l1 ag)):Int).toNat,none⟩ (.bool true)).setCell ⟨ax,((rd ak (rd al (rd l1 ag))):Int).toNat,none⟩ (.bool true)) w.heap.size (fun k_=>(P0_0_ k_∨w.heap.size≤k_)∧nO k_ cK∧some k_≠(.slice (some ⟨ax,0,none⟩) ai.length bC:Value).ownBlock∧nL k_ (some bB) al b8∧k_≠au∧k_≠an) (.slice az af.length aw) af):=⟨by(with_reducible repeat(first|apply Kd.V_alloc|apply Kd.V_drewN|apply Kd.V_drew));exact Kd.V_mono (Kd.V_far (p:=⟨ax,((rd ak (rd al (rd l1 ag))):Int).toNat,none⟩) (Kd.V_far (p:=⟨ax,((rd al (rd l1 ag)):Int).toNat,none⟩) (Kd.V_mono ab.out (fun k_ hk=>(⟨hk,fun e_=>hk.1.2.2.1 (by rw [e_];rfl)⟩:_∧k_≠ax))) (fun _ hk=>hk.2) (.bool true)) (fun _ hk=>hk.2) (.bool true)) (fun _ hk=>⟨hk.1.1.1,⟨hk.1.1.2.1,⟨hk.1.1.2.2.1,⟨hk.1.2,⟨hk.1.1.2.2.2.1,hk.1.1.2.2.2.2⟩⟩⟩⟩⟩)⟩
    have n2_:Aside0 (Kd.R Kd.bool 4 ((w37.setCell ⟨ax,((rd al (rd l1 ag)):Int).toNat,none⟩ (.bool true)).setCell ⟨ax,((rd ak (rd al (rd l1 ag))):Int).toNat,none⟩ (.bool true)) w.heap.size (fun k_=>(w.heap.size≤k_)) (.slice (some ⟨ax,0,none⟩) ai.length bC) cL):=⟨zR_ HQ39⟩
    have n3_:Aside0 (Kd.R (Kd.int .i64) 3 ((w37.setCell ⟨ax,((rd al (rd l1 ag)):Int).toNat,none⟩ (.bool true)).setCell ⟨ax,((rd ak (rd al (rd l1 ag))):Int).toNat,none⟩ (.bool true)) w.heap.size (fun k_=>(w.heap.size≤k_)∧nO k_ cK) (.slice (some bB) al.length b8) al):=⟨by(with_reducible repeat(first|apply rA|apply rN|apply rD));exact rM (rF (p:=⟨ax,((rd ak (rd al (rd l1 ag))):Int).toNat,none⟩) (rF (p:=⟨ax,((rd al (rd l1 ag)):Int).toNat,none⟩) (rY aW.out GG24.out (by decide)) (fun _ hk=>hk.2) (.bool true)) (fun _ hk=>hk.2) (.bool true)) (fun _ hk=>⟨hk.1.1.1,hk.1.2⟩)⟩
    have n4_:Aside0 (((w37.setCell ⟨ax,((rd al (rd l1 ag)):Int).toNat,none⟩ (.bool true)).setCell ⟨ax,((rd ak (rd al (rd l1 ag))):Int).toNat,none⟩ (.bool true)).heap[au]? = some (.cells #[.slice az af.length aw,.slice (some dc) ak.length aJ] 25 (0,0))):=⟨by refine zbf ?_ _ (hp:=by have h_:=Kd.R_ne aa.out ac.out (by decide);intro e_;exact h_ (by rw [e_];rfl));refine zbf ?_ _ (hp:=by have h_:=Kd.R_ne aa.out ac.out (by decide);intro e_;exact h_ (by rw [e_];rfl));exact zK_ ac⟩
    have n5_:Aside0 (((w37.setCell ⟨ax,((rd al (rd l1 ag)):Int).toNat,none⟩ (.bool true)).setCell ⟨ax,((rd ak (rd al (rd l1 ag))):Int).toNat,none⟩ (.bool true)).heap[an]? = some (.cells #[.slice (some ⟨ax,0,none⟩) ai.length bC] 97 (0,0))):=⟨by refine zbf ?_ _ (hp:=by have h_:=Kd.R_ne aa.out ah.out (by decide);intro e_;exact h_ (by rw [e_];rfl));refine zbf ?_ _ (hp:=by have h_:=Kd.R_ne aa.out ah.out (by decide);intro e_;exact h_ (by rw [e_];rfl));exact zK_ ah⟩
    have n6_:Aside0 (Below w.heap.size w ((w37.setCell ⟨ax,((rd al (rd l1 ag)):Int).toNat,none⟩ (.bool true)).setCell ⟨ax,((rd ak (rd al (rd l1 ag))):Int).toNat,none⟩ (.bool true))):=⟨by repeat(first|(with_reducible first|exact HB.out|apply bA|apply bN|apply bD|refine bS ?_ GB24.out|refine bS ?_ GB24.out|refine bS ?_ eR.out|refine bS ?_ eS.out)|exact HB.out)⟩
    (try clear am);(try clear ab);(try clear aa);(try clear aW);(try clear ac);(try clear ah);(try clear HB)
    generalize ((w37.setCell ⟨ax,((rd al (rd l1 ag)):Int).toNat,none⟩ (.bool true)).setCell ⟨ax,((rd ak (rd al (rd l1 ag))):Int).toNat,none⟩ (.bool true))=w40 at n0_ n1_ n2_ n3_ n4_ n5_ n6_ ⊢
    have am:=n0_;have ab:=n1_;have aa:=n2_;have aW:=n3_;have ac:=n4_;have ah:=n5_;have HB:=n6_;clear n0_ n1_ n2_ n3_ n4_ n5_ n6_
    have es:0≤((rd al (rd l1 ag)):Int):=zd
    have et:((rd al (rd l1 ag)):Int)<((aj.length:Int):Int):=zd
    obtain⟨aU,a9,eu,ev,gl29,cl29,HG29⟩:=Kd.R_form am.out (by omega)
    (first|cases eu|(injection eu with ea_ en_ ec_;(first|subst ea_|(injection ea_ with ea_;subst ea_));subst ec_;clear en_))
    have GB29:=A0_ ev;have GG29:=A0_ HG29;clear ev gl29 HG29
    obtain⟨gU,gV⟩:=Kd.R_celln 0 am.out ((rd al (rd l1 ag)):Int) es et
    replace es:=eq_true es;replace et:=eq_true et
    obtain⟨hy41_,hz41_⟩:=Kd.R_celln 0 am.out ((rd al (rd l1 ag)):Int) (zd) (zd)
    have HP41:=Kd.R_putg am.out ((rd al (rd l1 ag)):Int) (rd ak (rd al (rd l1 ag)))
    try go_wp2_with (first|((with_reducible refine gS (t:=3) (p:=58) rfl ?_);refine store_event (t:=3) (p:=58) (v := ?vo_w42) (w1:=(w40.setCell ⟨aU,((rd al (rd l1 ag)):Int).toNat,none⟩ (.int .i64 (rd ak (rd al (rd l1 ag)))))) ?hg ?ho ?hn ?hr ?_;(case ho=>rfl);(case hg=>rfl);(case hn=>rfl);(case hr=>first|(go_simp;done)|(go_simp;rfl));intro w42 hw;have hg:w40.grownBy w42 (some aU):=(by rw [hw];exact HP41.2);have hp_:Kd.R (Kd.int .i64) 3 w42 w.heap.size (fun k_=>(w.heap.size≤k_)∧nL k_ (some bB) al b8) (.slice (some ⟨aU,0,none⟩) aj.length a9) dy:=(by rw [hw,eW.out];exact HP41.1);clear HP41;replace ab:=A0_ (Kd.V_afterv (v:=(.slice (some ⟨aU,0,none⟩) aj.length a9)) (v1:=(.slice (some ⟨aU,0,none⟩) aj.length a9)) (ok:=(fun k_=>(P0_0_ k_∨w.heap.size≤k_)∧some k_≠(.slice (some ⟨ax,0,none⟩) ai.length bC:Value).ownBlock∧nL k_ (some bB) al b8∧k_≠au∧k_≠an)) (by(with_reducible repeat(first|apply Kd.V_alloc|apply Kd.V_drewN|apply Kd.V_drew));exact Kd.V_mono ab.out (fun _ hk=>⟨⟨hk.1,⟨hk.2.2.1,⟨hk.2.2.2.1,⟨hk.2.2.2.2.1,hk.2.2.2.2.2⟩⟩⟩⟩,hk.2.1⟩)) hg (.inl rfl));replace aa:=A0_ (Kd.R_over' (v:=(.slice (some ⟨aU,0,none⟩) aj.length a9)) (zR_ aa) (Kd.R_typed am.out) (by decide) hg);replace ac:=A0_ (blk_grown (g:=au) (o := .cells #[.slice az af.length aw,.slice (some dc) ak.length aJ] 25 (0,0)) (zK_ ac) hg (Kd.R_ne am.out ac.out (by decide)));replace ah:=A0_ (blk_grown (g:=an) (o := .cells #[.slice (some ⟨ax,0,none⟩) ai.length bC] 97 (0,0)) (zK_ ah) hg (Kd.R_ne am.out ah.out (by decide)));replace am:=A0_ (hp_);replace aW:=A0_ (Kd.R_after (v:=(.slice (some ⟨aU,0,none⟩) aj.length a9)) (v1:=(.slice (some ⟨aU,0,none⟩) aj.length a9)) (ok:=(fun k_=>(w.heap.size≤k_))) (zR_ aW) hg (.inl rfl));replace HB:=A0_ ((by rw [hw];exact bS (HB.out) GB29.out:Below w.heap.size w w42));clear hg hw hp_;have ew:0≤((rd ak (rd al (rd l1 ag))):Int):=zd;have ex:((rd ak (rd al (rd l1 ag))):Int)<((aj.length:Int):Int):=zd;obtain⟨gW,gX⟩:=Kd.R_celln 0 am.out ((rd ak (rd al (rd l1 ag))):Int) ew ex;replace ew:=eq_true ew;replace ex:=eq_true ex;obtain⟨hy43_,hz43_⟩:=Kd.R_celln 0 am.out ((rd ak (rd al (rd l1 ag))):Int) (zd) (zd);have HP43:=Kd.R_putg am.out ((rd ak (rd al (rd l1 ag))):Int) (rd al (rd l1 ag)))|((with_reducible refine gS (t:=3) (p:=59) rfl ?_);refine store_event (t:=3) (p:=59) (v := ?vo_w44) (w1:=(w42.setCell ⟨aU,((rd ak (rd al (rd l1 ag))):Int).toNat,none⟩ (.int .i64 (rd al (rd l1 ag))))) ?hg ?ho ?hn ?hr ?_;(case ho=>rfl);(case hg=>rfl);(case hn=>rfl);(case hr=>first|(go_simp;done)|(go_simp;rfl));intro w44 hw;have hg:w42.grownBy w44 (some aU):=(by rw [hw];exact HP43.2);have hp_:Kd.R (Kd.int .i64) 3 w44 w.heap.size (fun k_=>(w.heap.size≤k_)∧nL k_ (some bB) al b8) (.slice (some ⟨aU,0,none⟩) aj.length a9) dz:=(by rw [hw,eX.out];exact HP43.1);clear HP43;replace ab:=A0_ (Kd.V_afterv (v:=(.slice (some ⟨aU,0,none⟩) aj.length a9)) (v1:=(.slice (some ⟨aU,0,none⟩) aj.length a9)) (ok:=(fun k_=>(P0_0_ k_∨w.heap.size≤k_)∧some k_≠(.slice (some ⟨ax,0,none⟩) ai.length bC:Value).ownBlock∧nL k_ (some bB) al b8∧k_≠au∧k_≠an)) (by(with_reducible repeat(first|apply Kd.V_alloc|apply Kd.V_drewN|apply Kd.V_drew));exact ab.out) hg (.inl rfl));replace aa:=A0_ (Kd.R_over' (v:=(.slice (some ⟨aU,0,none⟩) aj.length a9)) (zR_ aa) (Kd.R_typed am.out) (by decide) hg);replace ac:=A0_ (blk_grown (g:=au) (o := .cells #[.slice az af.length aw,.slice (some dc) ak.length aJ] 25 (0,0)) (zK_ ac) hg (Kd.R_ne am.out ac.out (by decide)));replace ah:=A0_ (blk_grown (g:=an) (o := .cells #[.slice (some ⟨ax,0,none⟩) ai.length bC] 97 (0,0)) (zK_ ah) hg (Kd.R_ne am.out ah.out (by decide)));replace am:=A0_ (hp_);replace aW:=A0_ (Kd.R_after (v:=(.slice (some ⟨aU,0,none⟩) aj.length a9)) (v1:=(.slice (some ⟨aU,0,none⟩) aj.length a9)) (ok:=(fun k_=>(w.heap.size≤k_))) (zR_ aW) hg (.inl rfl));replace HB:=A0_ ((by rw [hw];exact bS (HB.out) GB29.out:Below w.heap.size w w44));clear hg hw hp_))
    go_roundg k1
    case measure=>have:=aY.out;omega
    case rel=>exact⟨(dz),(wrap64 (ag+1)),(cL),(.slice (some ⟨ax,0,none⟩) ai.length bC),zt,H',⟨by have:=aY.out;omega⟩,⟨zmR am (fun _ hk=>hk.1)⟩,⟨by(with_reducible repeat(first|apply Kd.V_alloc|apply Kd.V_drewN|apply Kd.V_drew));exact Kd.V_mono ab.out (fun _ hk=>⟨hk.1.1,⟨hk.2,⟨hk.1.2.1,⟨hk.1.2.2.2.1,hk.1.2.2.2.2⟩⟩⟩⟩)⟩,⟨zR_ aa⟩,⟨zK_ ac⟩,⟨zK_ ah⟩,⟨zB_ HB⟩⟩
   rw [if_neg bJ] at H;have bz:=dF bJ;clear bJ
   obtain⟨Ao7_,co7_,eo7_⟩:=rS am.out;subst eo7_;obtain⟨dH,dd⟩ : ∃ y_:List (List Int),y_=(([af,aj]:List (List Int))):=⟨_,rfl⟩
   replace H:((id_.f k1 dH).bind fun aK=>(ie_.l1 k1 l1 (af.length:Int) aj 0 aK (aK.length:Int) 0 af ak ai))=some r:=zH dd H
   have dY:=A0_ dd;clear dd;obtain⟨aK,gY,H⟩:=zbind H;have H':=A0_ H;clear H;have h8:=aE.out;have h9:=aH.out;have bb:=zc0 ac;have bc:=zc1 ac;have bd:=kF ac.out 0;have be:=kF ac.out 1
   go_wp2_with (first|((with_reducible refine gD (N:=64) rfl ?_);refine Kd.N_lit (Kd.slice 3 (Kd.int .i64)) _ 23 ?hg (N':=64) ?hd (xs:=([af,aj]:List (List Int))) (inner := [.slice az af.length aw,(.slice Ao7_ aj.length co7_)]) (ok:=(fun _:Nat=>True)) (okp:=(fun _:Nat=>True)) ?hr ?hp (fun _ hk=>hk) ((show ∀ k_,wr.heap.size≤k_→(fun _:Nat=>True) k_ from fun _ _=>trivial) _ (Nat.le_refl _)) (Below.refl _ _) (Nat.le_refl _) (by simp) ?_;(case hd=>rfl);(case hg=>rfl);(case hr=>first|(go_simp;done)|(go_simp;rfl));(case hp=>exact(Reps.one (show Kd.FK (Kd.slice 3 (Kd.int .i64)) _ _ af [.slice az af.length aw] from Kd.FK_slice_mk (Kd.V_reads' ab.out).2.1 (Kd.V_F (Kd.V_mono ab.out (fun _ _=>trivial)))) (Reps.one (show Kd.FK (Kd.slice 3 (Kd.int .i64)) _ _ aj [(.slice Ao7_ aj.length co7_)] from Kd.FK_slice_mk (rR am.out).2.1 (Kd.V_F (Kd.V_mono (Kd.R_V (base':=0) am.out) (fun _ _=>trivial)))) (Reps.none _ _))));intro iD w48 cv hb hg_ hnew_;clear hg_ hnew_;(first|rw [← dY.out] at cv|(simp only [Int.reduceToNat] at cv;rw [← dY.out] at cv));replace am:=zR am hb;replace ab:=A0_ (Kd.V_elder' (by(with_reducible repeat(first|apply Kd.V_alloc|apply Kd.V_drewN|apply Kd.V_drew));exact ab.out) (Kd.N_base cv) hb);replace aa:=zR aa hb;have cl:=A0_ (Kd.N_lower cv (bZ (zB_ HB)));replace ac:=zK ac hb;replace ah:=zK ah hb;replace HB:=zB HB hb;clear hb cv;obtain⟨fN,fO,fP⟩:=Kd.N_slice cl.out;subst fP)|((with_reducible refine gC (f:=60) rfl ?_);refine zJ (some 65) Tryz.func60 #[.slice fN dH.length fO] ?_;(with_reducible refine(id_.calls k1 _ _ dH aK _ ?aZ ?a4 gY.out).mono ?_);(case aZ=>repeat(first|exact(Kd.N_reads' cl.out).2.2|(with_reducible refine cA ?_ _)|(with_reducible refine cN ?_ _)|(with_reducible refine cD ?_)));(case a4=>exact(Kd.N_reads' cl.out).2.1);rintro e w51 ⟨iE,rfl,aQ,hb⟩;refine⟨_,rfl,?_⟩;replace ab:=A0_ (Kd.V_elder' (by(with_reducible repeat(first|apply Kd.V_alloc|apply Kd.V_drewN|apply Kd.V_drew));exact ab.out) (Kd.R_base aQ) hb);replace aa:=zR aa hb;replace cl:=A0_ (Kd.N_elder' (by(with_reducible repeat(first|apply Kd.N_alloc|apply Kd.N_drewN|apply Kd.N_drew));exact cl.out) (Kd.R_base aQ) hb);have dZ:=A0_ (rL (Kd.R_new' (Kd.R_newM (M:=fun k_=>(w.heap.size≤k_)) aQ (bZ (zB_ HB)) (fun k_ h_=>h_)) (rX (zR_ am))) (bZ (zB_ HB)));replace am:=A0_ (Kd.R_elder' (zR_ am) (Kd.R_base aQ) hb);replace ac:=zK ac hb;replace ah:=zK ah hb;replace HB:=zB HB hb;(try clear hb);(try clear aQ);obtain⟨de,df,fQ⟩:=rS dZ.out;subst fQ))
   go_loopg [12,67] k1 (fun kq v12 v67 w' => ∃ (ao:Int) (aA:Int),v12 = .int .i64 ao∧v67 = .int .i64 aA∧Aside0 (ie_.l1 kq l1 (af.length:Int) aj ao aK (aK.length:Int) aA af ak ai=some r)∧Aside0 (kq≤k1)∧Aside0 (Kd.R (Kd.int .i64) 3 w' w.heap.size (fun k_=>(w.heap.size≤k_)∧some k_≠((.slice de aK.length df):Value).ownBlock) (.slice Ao7_ aj.length co7_) aj)∧Aside0 (Kd.R (Kd.int .i64) 3 w' w.heap.size (fun k_=>(w.heap.size≤k_)∧some k_≠((.slice Ao7_ aj.length co7_):Value).ownBlock) (.slice de aK.length df) aK)∧Aside0 (Kd.V (Kd.int .i64) 3 w' w.heap.size (fun k_=>(P0_0_ k_∨w.heap.size≤k_)∧some k_≠((.slice Ao7_ aj.length co7_):Value).ownBlock∧some k_≠((.slice de aK.length df):Value).ownBlock∧nO k_ u168000∧k_≠au∧k_≠an) (.slice az af.length aw) af)∧Aside0 (Kd.R Kd.bool 4 w' w.heap.size (fun k_=>(w.heap.size≤k_)) u168000 ai)∧Aside0 (w'.heap[au]? = some (.cells #[(.slice az af.length aw),(.slice aT ak.length aJ)] 25 (0,0)))∧Aside0 (w'.heap[an]? = some (.cells #[u168000] 97 (0,0)))∧Aside0 (Below w.heap.size w w'))
   case atStart=>exact⟨(0),(0),zt,zt,H',⟨Nat.le_refl _⟩,⟨zR_ am⟩,⟨zmR dZ (fun _ hk=>⟨hk.1.1,hk.2⟩)⟩,⟨by(with_reducible repeat(first|apply Kd.V_alloc|apply Kd.V_drewN|apply Kd.V_drew));exact Kd.V_mono ab.out (fun _ hk=>⟨hk.1.1.1,⟨hk.1.1.2.1,⟨hk.2,⟨hk.1.1.2.2.1,⟨hk.1.1.2.2.2.1,hk.1.1.2.2.2.2⟩⟩⟩⟩⟩)⟩,⟨zR_ aa⟩,⟨zK_ ac⟩,⟨zK_ ah⟩,⟨zB_ HB⟩⟩
   case round =>
    clear H';(try clear c1);(try clear c3);(try clear bY);(try clear b5);(try clear c4);(try clear b6);(try clear b7);(try clear bJ);(try clear bz);(try clear a6);(try clear bb);(try clear bc);(try clear bf);(try clear bg);(try clear a7);(try clear bd);(try clear be);(try clear bh);(try clear bi);obtain⟨ao,aA,rfl,rfl,HA,a5,am,bE,ab,aa,ac,ah,HB⟩:=hrel
    cases gk with
    | zero=>exact absurd HA.out (by simp [ie_.l1])
    | succ k2 =>
     have H:=HA.out;clear HA;simp only [ie_.l1] at H
     by_cases bK:aA<(aK.length:Int)
     ·rw [if_pos bK] at H
      have bU:=dT bK;clear bK
      have fA:=zpc H;replace H:=zph H
      have ia:=dT fA;clear fA
      have fB:=zpc H;replace H:=zph H
      have ib:=dT fB;clear fB
      by_cases cM:aA=(rd aK aA)
      ·rw [if_pos cM] at H
       have eY:(aA == (rd aK aA))=true:=beq_iff_eq.mpr cM
       have eZ:(aA != (rd aK aA))=false:=bne_eq_false_iff_eq.mpr cM
       clear cM;have H':=A0_ H;clear H
       have b9:0≤(aA:Int):=zd
       have cd:aA<(aK.length:Int):=zd
       obtain⟨e4,dI,ef⟩:=tI (rR bE.out).2.2 aA b9 cd
       cases dI
       replace b9:=eq_true b9;replace cd:=eq_true cd
       go_wp2
       go_roundg k2
       case measure=>have:=aY.out;have:=a5.out;omega
       case rel=>exact⟨(wrap64 (ao+1)),(wrap64 (aA+1)),zt,zt,H',⟨by have:=aY.out;have:=a5.out;omega⟩,⟨zR_ am⟩,⟨zR_ bE⟩,⟨by(with_reducible repeat(first|apply Kd.V_alloc|apply Kd.V_drewN|apply Kd.V_drew));exact ab.out⟩,⟨zR_ aa⟩,⟨zK_ ac⟩,⟨zK_ ah⟩,⟨zB_ HB⟩⟩
      rw [if_neg cM] at H
      have eY:(aA == (rd aK aA))=false:=beq_eq_false_iff_ne.mpr cM
      have eZ:(aA != (rd aK aA))=true:=bne_iff_ne.mpr cM
      have H':=A0_ H;clear H
      have b9:0≤(aA:Int):=zd
      have cd:aA<(aK.length:Int):=zd
      obtain⟨e4,dI,ef⟩:=tI (rR bE.out).2.2 aA b9 cd
      cases dI
      replace b9:=eq_true b9;replace cd:=eq_true cd
      go_wp2
      go_roundg k2
      case measure=>have:=aY.out;have:=a5.out;omega
      case rel=>exact⟨(ao),(wrap64 (aA+1)),zt,zt,H',⟨by have:=aY.out;have:=a5.out;omega⟩,⟨zR_ am⟩,⟨zR_ bE⟩,⟨by(with_reducible repeat(first|apply Kd.V_alloc|apply Kd.V_drewN|apply Kd.V_drew));exact ab.out⟩,⟨zR_ aa⟩,⟨zK_ ac⟩,⟨zK_ ah⟩,⟨zB_ HB⟩⟩
     rw [if_neg bK] at H;have bU:=dF bK;clear bK;obtain⟨aX,gZ,H⟩:=zbind H;have H':=A0_ H;clear H;have ic:=aE.out;have id:=aH.out;have bn:=zc0 ac;have bo:=zc1 ac;have bp:=kF ac.out 0;have bq:=kF ac.out 1
     go_wp2_with (first|((with_reducible refine gC (f:=81) rfl ?_);refine zJ (some 80) Tryz.func81 #[.slice az af.length aw] ?_;(with_reducible refine(i9_.calls k2 _ _ af aX _ ?aZ ?a4 gZ.out).mono ?_);(case aZ=>repeat(first|exact(Kd.V_reads' ab.out).2.2|(with_reducible refine cA ?_ _)|(with_reducible refine cN ?_ _)|(with_reducible refine cD ?_)));(case a4=>exact(Kd.V_reads' ab.out).2.1);rintro e w60 ⟨iF,rfl,aQ,hb⟩;refine⟨_,rfl,?_⟩;replace ab:=A0_ (Kd.V_elder' (by(with_reducible repeat(first|apply Kd.V_alloc|apply Kd.V_drewN|apply Kd.V_drew));exact ab.out) (Kd.S_base aQ) hb);have d4:=A0_ (Kd.N_lower (Kd.N_mono (ok':=fun k_=>(P0_0_ k_∨w.heap.size≤k_)∧some k_≠((.slice Ao7_ aj.length co7_):Value).ownBlock∧nL k_ de aK df∧nO k_ u168000∧k_≠au∧k_≠an) (Kd.S_N (Kd.S_bound aQ)) (fun k_ hk_=>⟨(.inr (Nat.le_trans (bZ (zB_ HB)) hk_.2.1)),(Kd.fresh' (rX (zR_ am)) k_ hk_.2.1),(Kd.fresh' (rX (zR_ bE)) k_ hk_.2.1),(Kd.fresh' (rX (zR_ aa)) k_ hk_.2.1),(Kd.freshB (g:=au) (o := .cells #[.slice az af.length aw,.slice aT ak.length aJ] 25 (0,0)) (zK_ ac) k_ hk_.2.1),(Kd.freshB (g:=an) (o := .cells #[u168000] 97 (0,0)) (zK_ ah) k_ hk_.2.1)⟩)) (bZ (zB_ HB)));replace am:=zR am hb;replace bE:=zR bE hb;replace aa:=zR aa hb;replace ac:=zK ac hb;replace ah:=zK ah hb;replace HB:=zB HB hb;(try clear hb);(try clear aQ);obtain⟨ey,ez,fR⟩:=Kd.N_slice d4.out;subst fR))
     go_loopg [15,82] k2 (fun kq v15 v82 w' => ∃ (bF:Int) (aC:Int),v15 = .int .i64 bF∧v82 = .int .i64 aC∧Aside0 (ie_.l2 kq l1 (af.length:Int) aj ao bF aX (aX.length:Int) aC af ak ai=some r)∧Aside0 (kq≤k2)∧Aside0 (Kd.R (Kd.int .i64) 3 w' w.heap.size (fun k_=>(w.heap.size≤k_)) (.slice Ao7_ aj.length co7_) aj)∧Aside0 (Kd.N (Kd.slice 3 (Kd.int .i64)) 23 w' w.heap.size (fun k_=>(P0_0_ k_∨w.heap.size≤k_)∧some k_≠((.slice Ao7_ aj.length co7_):Value).ownBlock∧nO k_ u168000∧k_≠au∧k_≠an) (.slice ey aX.length ez) aX)∧Aside0 (Kd.V (Kd.int .i64) 3 w' w.heap.size (fun k_=>(P0_0_ k_∨w.heap.size≤k_)∧some k_≠((.slice Ao7_ aj.length co7_):Value).ownBlock∧some k_≠((.slice ey aX.length ez):Value).ownBlock∧nO k_ u168000∧k_≠au∧k_≠an) (.slice az af.length aw) af)∧Aside0 (Kd.R Kd.bool 4 w' w.heap.size (fun k_=>(w.heap.size≤k_)) u168000 ai)∧Aside0 (w'.heap[au]? = some (.cells #[(.slice az af.length aw),(.slice aT ak.length aJ)] 25 (0,0)))∧Aside0 (w'.heap[an]? = some (.cells #[u168000] 97 (0,0)))∧Aside0 (Below w.heap.size w w'))
     case atStart=>exact⟨(0),(0),zt,zt,H',⟨Nat.le_refl _⟩,⟨zmR am (fun _ hk=>hk.1)⟩,⟨by(with_reducible repeat(first|apply Kd.N_alloc|apply Kd.N_drewN|apply Kd.N_drew));exact Kd.N_mono d4.out (fun _ hk=>⟨hk.1,⟨hk.2.1,⟨hk.2.2.2.1,⟨hk.2.2.2.2.1,hk.2.2.2.2.2⟩⟩⟩⟩)⟩,⟨by(with_reducible repeat(first|apply Kd.V_alloc|apply Kd.V_drewN|apply Kd.V_drew));exact Kd.V_mono ab.out (fun _ hk=>⟨hk.1.1,⟨hk.1.2.1,⟨hk.2,⟨hk.1.2.2.2.1,⟨hk.1.2.2.2.2.1,hk.1.2.2.2.2.2⟩⟩⟩⟩⟩)⟩,⟨zR_ aa⟩,⟨zK_ ac⟩,⟨zK_ ah⟩,⟨zB_ HB⟩⟩
     case round =>
      clear H';(try clear c1);(try clear c3);(try clear bY);(try clear b5);(try clear c4);(try clear b6);(try clear b7);(try clear bJ);(try clear bz);(try clear bK);(try clear bU);(try clear a6);(try clear bb);(try clear bc);(try clear bn);(try clear bo);(try clear bf);(try clear bg);(try clear a7);(try clear bd);(try clear be);(try clear bp);(try clear bq);(try clear bh);(try clear bi);obtain⟨bF,aC,rfl,rfl,HA,bk,am,aM,ab,aa,ac,ah,HB⟩:=hrel
      cases gk with
      | zero=>exact absurd HA.out (by simp [ie_.l2])
      | succ k3 =>
       have H:=HA.out;clear HA;simp only [ie_.l2] at H
       by_cases bW:aC<(aX.length:Int)
       ·rw [if_pos bW] at H
        have cm:=dT bW;clear bW
        have fC:=zpc H;replace H:=zph H
        have ie:=dT fC;clear fC
        have fD:=zpc H;replace H:=zph H
        have ig:=dT fD;clear fD;obtain⟨fS,fE,H⟩:=zbind H
        by_cases d5:fS=true
        ·subst d5
         rw [if_pos rfl] at H;have H':=A0_ H;clear H
         have bG:0≤(aC:Int):=zd
         have bH:aC<(aX.length:Int):=zd
         obtain⟨e5,cO,cP,dJ,cw,br,bu⟩:=at_L1 (Kd.N_reads' aM.out).2.2 aC bG bH
         cases dJ
         obtain⟨ce191,hce191,hMe191,bL⟩:=Kd.N_get aM.out [] aC bG (by first|exact bH|exact zd|(have e_:=(Kd.N_reads' aM.out).1;omega))
         obtain⟨ua191_0,uc191_0,rfl,ul191_0,a8⟩:=Kd.FK_slice_open hMe191;have hv191_0:=bL 0 _ rfl
         rw [Nat.add_zero,show((Kd.slice 3 (Kd.int .i64))).sz=1 from rfl,Nat.mul_one] at hv191_0
         replace hv191_0:=sI (hv191_0.symm.trans cw)
         injection hv191_0 with hva_ hvn_ hvc_
         rw [hva_] at a8;rw [hvc_] at ul191_0
         have HL191_0:=A0_ (show Kd.V (Kd.int .i64) 3 _ w.heap.size _ _ (rd_L1 aX aC) from Kd.V_mk ul191_0 a8)
         clear hva_ hvn_ hvc_ a8 ul191_0 bL hce191;have aI:=A0_ bu;have cx:=A0_ br;clear bu br;replace bG:=eq_true bG;replace bH:=eq_true bH;obtain⟨fT,fU,fV⟩:=rS aa.out;subst fV
         go_wp2_with (first|((with_reducible refine gC (f:=84) rfl ?_);refine zJ (some 88) Tryz.func84 #[.slice cO (rd_L1 aX aC).length cP,.func (.func 85) #[] #[.pointer (some ⟨an,0,none⟩)]] ?_;(with_reducible refine(sn_.calls _ _ (rd_L1 aX aC) fT fU ai an true _ ?aZ ?a4 ?cj ?ck ?dh fE.out).mono ?_);(case aZ=>repeat(first|exact(by repeat(first|(with_reducible exact aI.out)|(with_reducible refine cA ?_ _)|(with_reducible refine cN ?_ _)|(with_reducible refine cD ?_)|exact aI.out))|(with_reducible refine cA ?_ _)|(with_reducible refine cN ?_ _)|(with_reducible refine cD ?_)));(case a4=>exact cx.out);(case cj=>exact zD aa);(case ck=>exact(rR aa.out).2.1);(case dh=>exact zK_ ah);rintro e w68 ⟨rfl,hb⟩;refine⟨_,rfl,?_⟩;replace am:=zR am hb;replace aM:=A0_ (Kd.N_below (by(with_reducible repeat(first|apply Kd.N_alloc|apply Kd.N_drewN|apply Kd.N_drew));exact aM.out) hb);replace ab:=A0_ (Kd.V_below (by(with_reducible repeat(first|apply Kd.V_alloc|apply Kd.V_drewN|apply Kd.V_drew));exact ab.out) hb);replace aa:=zR aa hb;replace HL191_0:=A0_ (Kd.V_below (by(with_reducible repeat(first|apply Kd.V_alloc|apply Kd.V_drewN|apply Kd.V_drew));exact HL191_0.out) hb);replace ac:=zK ac hb;replace ah:=zK ah hb;replace aI:=A0_ (cB (by repeat(first|(with_reducible exact aI.out)|(with_reducible refine cA ?_ _)|(with_reducible refine cN ?_ _)|(with_reducible refine cD ?_)|exact aI.out)) hb);replace HB:=zB HB hb;(try clear hb)))
         go_roundg k3
         case measure=>have:=aY.out;have:=a5.out;have:=bk.out;omega
         case rel=>exact⟨(bF),(wrap64 (aC+1)),zt,zt,H',⟨by have:=aY.out;have:=a5.out;have:=bk.out;omega⟩,⟨zR_ am⟩,⟨by(with_reducible repeat(first|apply Kd.N_alloc|apply Kd.N_drewN|apply Kd.N_drew));exact aM.out⟩,⟨by(with_reducible repeat(first|apply Kd.V_alloc|apply Kd.V_drewN|apply Kd.V_drew));exact ab.out⟩,⟨zR_ aa⟩,⟨zK_ ac⟩,⟨zK_ ah⟩,⟨zB_ HB⟩⟩
        replace d5:=Bool.eq_false_iff.mpr d5;subst d5
        rw [if_neg (show ¬ (false=true) by decide)] at H
        have H':=A0_ H;clear H
        have bG:0≤(aC:Int):=zd
        have bH:aC<(aX.length:Int):=zd
        obtain⟨e5,cO,cP,dJ,cw,br,bu⟩:=at_L1 (Kd.N_reads' aM.out).2.2 aC bG bH
        cases dJ
        obtain⟨ce191,hce191,hMe191,bL⟩:=Kd.N_get aM.out [] aC bG (by first|exact bH|exact zd|(have e_:=(Kd.N_reads' aM.out).1;omega))
        obtain⟨ua191_0,uc191_0,rfl,ul191_0,a8⟩:=Kd.FK_slice_open hMe191;have hv191_0:=bL 0 _ rfl
        rw [Nat.add_zero,show((Kd.slice 3 (Kd.int .i64))).sz=1 from rfl,Nat.mul_one] at hv191_0
        replace hv191_0:=sI (hv191_0.symm.trans cw)
        injection hv191_0 with hva_ hvn_ hvc_
        rw [hva_] at a8;rw [hvc_] at ul191_0
        have HL191_0:=A0_ (show Kd.V (Kd.int .i64) 3 _ w.heap.size _ _ (rd_L1 aX aC) from Kd.V_mk ul191_0 a8)
        clear hva_ hvn_ hvc_ a8 ul191_0 bL hce191;have aI:=A0_ bu;have cx:=A0_ br;clear bu br;replace bG:=eq_true bG;replace bH:=eq_true bH;obtain⟨fW,fX,fY⟩:=rS aa.out;subst fY
        go_wp2_with (first|((with_reducible refine gC (f:=84) rfl ?_);refine zJ (some 88) Tryz.func84 #[.slice cO (rd_L1 aX aC).length cP,.func (.func 85) #[] #[.pointer (some ⟨an,0,none⟩)]] ?_;(with_reducible refine(sn_.calls _ _ (rd_L1 aX aC) fW fX ai an false _ ?aZ ?a4 ?cj ?ck ?dh fE.out).mono ?_);(case aZ=>repeat(first|exact(by repeat(first|(with_reducible exact aI.out)|(with_reducible refine cA ?_ _)|(with_reducible refine cN ?_ _)|(with_reducible refine cD ?_)|exact aI.out))|(with_reducible refine cA ?_ _)|(with_reducible refine cN ?_ _)|(with_reducible refine cD ?_)));(case a4=>exact cx.out);(case cj=>exact zD aa);(case ck=>exact(rR aa.out).2.1);(case dh=>exact zK_ ah);rintro e w70 ⟨rfl,hb⟩;refine⟨_,rfl,?_⟩;replace am:=zR am hb;replace aM:=A0_ (Kd.N_below (by(with_reducible repeat(first|apply Kd.N_alloc|apply Kd.N_drewN|apply Kd.N_drew));exact aM.out) hb);replace ab:=A0_ (Kd.V_below (by(with_reducible repeat(first|apply Kd.V_alloc|apply Kd.V_drewN|apply Kd.V_drew));exact ab.out) hb);replace aa:=zR aa hb;replace HL191_0:=A0_ (Kd.V_below (by(with_reducible repeat(first|apply Kd.V_alloc|apply Kd.V_drewN|apply Kd.V_drew));exact HL191_0.out) hb);replace ac:=zK ac hb;replace ah:=zK ah hb;replace aI:=A0_ (cB (by repeat(first|(with_reducible exact aI.out)|(with_reducible refine cA ?_ _)|(with_reducible refine cN ?_ _)|(with_reducible refine cD ?_)|exact aI.out)) hb);replace HB:=zB HB hb;(try clear hb)))
        go_roundg k3
        case measure=>have:=aY.out;have:=a5.out;have:=bk.out;omega
        case rel=>exact⟨(wrap64 (bF+1)),(wrap64 (aC+1)),zt,zt,H',⟨by have:=aY.out;have:=a5.out;have:=bk.out;omega⟩,⟨zR_ am⟩,⟨by(with_reducible repeat(first|apply Kd.N_alloc|apply Kd.N_drewN|apply Kd.N_drew));exact aM.out⟩,⟨by(with_reducible repeat(first|apply Kd.V_alloc|apply Kd.V_drewN|apply Kd.V_drew));exact ab.out⟩,⟨zR_ aa⟩,⟨zK_ ac⟩,⟨zK_ ah⟩,⟨zB_ HB⟩⟩
       rw [if_neg bW] at H;have cm:=dF bW;clear bW
       have cQ:=zpc H;replace H:=zph H
       have cE:=eq_true cQ;have cF:=dT cQ;clear cQ
       have cR:=zpc H;replace H:=zph H
       have cG:=eq_true cR;have cH:=dT cR;clear cR
       obtain⟨eB,di⟩ : ∃ y_:List Bool,y_=(List.replicate ((af.length:Int):Int).toNat false):=⟨_,rfl⟩
       replace H:(ie_.l3 k3 l1 aj ao bF eB (af.length:Int) 0 af ak ai)=some r:=zH di H
       have d6:=A0_ di;clear di;have H':=A0_ H;clear H
       go_wp2_with (first|((with_reducible refine gD (N:=94) rfl ?_);refine Kd.R_make Kd.bool _ 4 rfl (N:=94) rfl 97 _ _ rfl (af.length:Int) rfl rfl Tryz.underlying97 (.bool false) 1 info4 rfl (by decide) (by omega) false (ok:=fun _=>True) (okp:=fun _=>True) rfl (fun _ hk=>hk) trivial (zd) (Nat.le_trans (Nat.mul_le_mul_right _ (zd:(af.length:Int).toNat≤281474976710656)) (by omega)) (Below.refl _ _) (Nat.le_refl _) ?_;intro bm w73 bM hb hg_ hnew_;clear hg_ hnew_;(first|rw [← d6.out] at bM|(simp only [Int.reduceToNat] at bM;rw [← d6.out] at bM));replace am:=zR am hb;replace aM:=A0_ (Kd.N_elder' (by(with_reducible repeat(first|apply Kd.N_alloc|apply Kd.N_drewN|apply Kd.N_drew));exact aM.out) (Kd.R_base bM) hb);replace ab:=A0_ (Kd.V_elder' (by(with_reducible repeat(first|apply Kd.V_alloc|apply Kd.V_drewN|apply Kd.V_drew));exact ab.out) (Kd.R_base bM) hb);have e6:=A0_ (rL (Kd.R_new' (Kd.R_newM (M:=fun k_=>(w.heap.size≤k_)) bM (bZ (zB_ HB)) (fun k_ h_=>h_)) (rX (zR_ aa))) (bZ (zB_ HB)));replace aa:=A0_ (Kd.R_elder' (zR_ aa) (Kd.R_base bM) hb);replace ac:=zK ac hb;replace ah:=zK ah hb;replace HB:=zB HB hb;clear hb bM))
       go_loopg [15,96] k3 (fun kq v15 v96 w' => ∃ (ay:Int) (aN:List Bool) (ar:Int),v15 = .int .i64 ay∧v96 = .int .i64 ar∧Aside0 (ie_.l3 kq l1 aj ao ay aN (af.length:Int) ar af ak ai=some r)∧Aside0 (kq≤k3)∧Aside0 (Kd.R (Kd.int .i64) 3 w' w.heap.size (fun k_=>(w.heap.size≤k_)) (.slice Ao7_ aj.length co7_) aj)∧Aside0 (Kd.R Kd.bool 4 w' w.heap.size (fun k_=>(w.heap.size≤k_)∧nO k_ u168000) bm aN)∧Aside0 (Kd.V (Kd.int .i64) 3 w' w.heap.size (fun k_=>(P0_0_ k_∨w.heap.size≤k_)∧some k_≠((.slice Ao7_ aj.length co7_):Value).ownBlock∧nO k_ bm∧nO k_ u168000∧k_≠au∧k_≠an) (.slice az af.length aw) af)∧Aside0 (Kd.R Kd.bool 4 w' w.heap.size (fun k_=>(w.heap.size≤k_)∧nO k_ bm) u168000 ai)∧Aside0 (w'.heap[au]? = some (.cells #[(.slice az af.length aw),(.slice aT ak.length aJ)] 25 (0,0)))∧Aside0 (w'.heap[an]? = some (.cells #[u168000] 97 (0,0)))∧Aside0 (Below w.heap.size w w'))
       case atStart=>exact⟨(bF),(eB),(0),zt,zt,H',⟨Nat.le_refl _⟩,⟨zR_ am⟩,⟨zmR e6 (fun _ hk=>⟨hk.1.1,hk.2⟩)⟩,⟨by(with_reducible repeat(first|apply Kd.V_alloc|apply Kd.V_drewN|apply Kd.V_drew));exact Kd.V_mono ab.out (fun _ hk=>⟨hk.1.1,⟨hk.1.2.1,⟨hk.2,⟨hk.1.2.2.2.1,⟨hk.1.2.2.2.2.1,hk.1.2.2.2.2.2⟩⟩⟩⟩⟩)⟩,⟨zR_ aa⟩,⟨zK_ ac⟩,⟨zK_ ah⟩,⟨zB_ HB⟩⟩
       case round =>
        clear H';(try clear c1);(try clear c3);(try clear bY);(try clear b5);(try clear c4);(try clear b6);(try clear b7);(try clear bJ);(try clear bz);(try clear bK);(try clear bU);(try clear bW);(try clear cm);(try clear cQ);(try clear cE);(try clear cF);(try clear cR);(try clear cG);(try clear cH);(try clear a6);(try clear bb);(try clear bc);(try clear bn);(try clear bo);(try clear bf);(try clear bg);(try clear a7);(try clear bd);(try clear be);(try clear bp);(try clear bq);(try clear bh);(try clear bi);obtain⟨ay,aN,ar,rfl,rfl,HA,bX,am,aq,ab,aa,ac,ah,HB⟩:=hrel
        cases gk with
        | zero=>exact absurd HA.out (by simp [ie_.l3])
        | succ k4 =>
         have H:=HA.out;clear HA;simp only [ie_.l3] at H
         by_cases cn:ar<(af.length:Int)
         ·rw [if_pos cn] at H
          have cI:=dT cn;clear cn;have dK:=A0_ H;clear H
          go_upto_region 30 with(fail)
          go_cut [109] (fun fZ wc => ∃ (kq:Nat) (bV:Bool),fZ = .bool bV∧Aside0 (ie_.j4 kq l1 aj ao ay aN ar (af.length:Int) ar bV af ak ai=some r)∧Aside0 (kq≤k4)∧Aside0 (Kd.R (Kd.int .i64) 3 wc w.heap.size (fun k_=>(w.heap.size≤k_)) (.slice Ao7_ aj.length co7_) aj)∧Aside0 (Kd.R Kd.bool 4 wc w.heap.size (fun k_=>(w.heap.size≤k_)∧nO k_ u168000) bm aN)∧Aside0 (Kd.V (Kd.int .i64) 3 wc w.heap.size (fun k_=>(P0_0_ k_∨w.heap.size≤k_)∧some k_≠((.slice Ao7_ aj.length co7_):Value).ownBlock∧nO k_ bm∧nO k_ u168000∧k_≠au∧k_≠an) (.slice az af.length aw) af)∧Aside0 (Kd.R Kd.bool 4 wc w.heap.size (fun k_=>(w.heap.size≤k_)∧nO k_ bm) u168000 ai)∧Aside0 (wc.heap[au]? = some (.cells #[(.slice az af.length aw),(.slice aT ak.length aJ)] 25 (0,0)))∧Aside0 (wc.heap[an]? = some (.cells #[u168000] 97 (0,0)))∧Aside0 (Below w.heap.size w wc))
          case first =>
           have H:=dK.out;clear dK
           have fF:=zpc H;replace H:=zph H
           have d7:=dT fF;clear fF
           (first|rw [d7]|(simp only [i64_w,i32_w];rw [d7])|skip)
           have fG:=zpc H;replace H:=zph H
           have ii:=dT fG;clear fG
           obtain⟨bq79,hbq79⟩ : ∃ b_:Bool,b_=(rdOf false ai ar):=⟨_,rfl⟩
           replace H:(if bq79=true then (if ar<(aN.length:Int) then (ie_.j4 k4 l1 aj ao ay aN ar (af.length:Int) ar (rdOf false aN ar) af ak ai) else (none)) else (ie_.j4 k4 l1 aj ao ay aN ar (af.length:Int) ar true af ak ai))=some r:=by rw [← hbq79] at H;exact H
           have Nbq79:=A0_ hbq79;clear hbq79
           by_cases d8:bq79=true
           ·subst d8
            rw [if_pos rfl] at H
            have fH:=zpc H;replace H:=zph H
            have ij:=dT fH;clear fH;have H':=A0_ H;clear H;have ik:=aH.out;have il:=aE.out
            have gM:wr.cell? ⟨an,0,none⟩=some (u168000):=(kC ah.out 0).trans rfl
            have gN:=kF ah.out 0;obtain⟨iG,iH,f2⟩:=rS aa.out;subst f2
            have ce:0≤(ar:Int):=zd
            have cf:ar<(ai.length:Int):=zd
            obtain⟨e7,dL,cy⟩:=Kd.at_bool (rR aa.out).2.2 ar ce cf
            (try rw [← Nbq79.out] at cy)
            cases dL
            replace ce:=eq_true ce;replace cf:=eq_true cf;obtain⟨iI,iJ,f3⟩:=rS aq.out;subst f3
            have dM:0≤(ar:Int):=zd
            have dN:ar<(aN.length:Int):=zd
            obtain⟨im,f4,eg⟩:=Kd.at_bool (rR aq.out).2.2 ar dM dN
            (try rw [← Nbq79.out] at eg)
            cases f4
            replace dM:=eq_true dM;replace dN:=eq_true dN
            go_wp2
            go_meet
            case rel=>exact⟨_,(rdOf false aN ar),zt,H',⟨by have:=aY.out;have:=a5.out;have:=bk.out;have:=bX.out;first|omega|exact Nat.le_refl _⟩,⟨zR_ am⟩,⟨zR_ aq⟩,⟨by(with_reducible repeat(first|apply Kd.V_alloc|apply Kd.V_drewN|apply Kd.V_drew));exact ab.out⟩,⟨zR_ aa⟩,⟨zK_ ac⟩,⟨zK_ ah⟩,⟨zB_ HB⟩⟩
           replace d8:=Bool.eq_false_iff.mpr d8;subst d8
           rw [if_neg (show ¬ (false=true) by decide)] at H
           have H':=A0_ H;clear H;have io:=aH.out;have ip:=aE.out
           have gO:wr.cell? ⟨an,0,none⟩=some (u168000):=(kC ah.out 0).trans rfl
           have gP:=kF ah.out 0;obtain⟨iK,iL,f6⟩:=rS aa.out;subst f6
           have ce:0≤(ar:Int):=zd
           have cf:ar<(ai.length:Int):=zd
           obtain⟨e7,dL,cy⟩:=Kd.at_bool (rR aa.out).2.2 ar ce cf
           (try rw [← Nbq79.out] at cy)
           cases dL
           replace ce:=eq_true ce;replace cf:=eq_true cf
           go_wp2
           go_meet
           case rel=>exact⟨_,(true),zt,H',⟨by have:=aY.out;have:=a5.out;have:=bk.out;have:=bX.out;first|omega|exact Nat.le_refl _⟩,⟨zR_ am⟩,⟨zR_ aq⟩,⟨by(with_reducible repeat(first|apply Kd.V_alloc|apply Kd.V_drewN|apply Kd.V_drew));exact ab.out⟩,⟨zR_ aa⟩,⟨zK_ ac⟩,⟨zK_ ah⟩,⟨zB_ HB⟩⟩
          case rest =>
           clear dK;(try clear c1);(try clear c3);(try clear bY);(try clear b5);(try clear c4);(try clear b6);(try clear b7);(try clear bJ);(try clear bz);(try clear bK);(try clear bU);(try clear bW);(try clear cm);(try clear cQ);(try clear cE);(try clear cF);(try clear cR);(try clear cG);(try clear cH);(try clear cn);(try clear cI);(try clear a6);(try clear bb);(try clear bc);(try clear bn);(try clear bo);(try clear bf);(try clear bg);(try clear a7);(try clear bd);(try clear be);(try clear bp);(try clear bq);(try clear bh);(try clear bi);obtain⟨kq,bV,rfl,HA,bO,am,aq,ab,aa,ac,ah,HB⟩:=hcut
           cases kq with
           | zero=>exact absurd HA.out (by simp [ie_.j4])
           | succ dO =>
            have H:=HA.out;clear HA;simp only [ie_.j4] at H
            by_cases cT:bV=true
            ·subst cT
             rw [if_pos rfl] at H;have H':=A0_ H;clear H
             go_wp2
             go_roundg dO
             case measure=>have:=aY.out;have:=a5.out;have:=bk.out;have:=bX.out;have:=bO.out;omega
             case rel=>exact⟨(ay),(aN),(wrap64 (ar+1)),zt,zt,H',⟨by have:=aY.out;have:=a5.out;have:=bk.out;have:=bX.out;have:=bO.out;omega⟩,⟨zR_ am⟩,⟨zR_ aq⟩,⟨by(with_reducible repeat(first|apply Kd.V_alloc|apply Kd.V_drewN|apply Kd.V_drew));exact ab.out⟩,⟨zR_ aa⟩,⟨zK_ ac⟩,⟨zK_ ah⟩,⟨zB_ HB⟩⟩
            replace cT:=Bool.eq_false_iff.mpr cT;subst cT
            rw [if_neg (show ¬ (false=true) by decide)] at H
            have H':=A0_ H;clear H
            go_wp2
            go_loopg [20] dO (fun kq v20 w' => ∃ (aD:List Bool) (ap:Int),v20 = .int .i64 ap∧Aside0 (ie_.l4 kq l1 aj ao (wrap64 (ay+1)) aD ap (af.length:Int) ar af ak ai=some r)∧Aside0 (kq≤dO)∧Aside0 (Kd.R (Kd.int .i64) 3 w' w.heap.size (fun k_=>(w.heap.size≤k_)) (.slice Ao7_ aj.length co7_) aj)∧Aside0 (Kd.R Kd.bool 4 w' w.heap.size (fun k_=>(w.heap.size≤k_)∧nO k_ u168000) bm aD)∧Aside0 (Kd.V (Kd.int .i64) 3 w' w.heap.size (fun k_=>(P0_0_ k_∨w.heap.size≤k_)∧some k_≠((.slice Ao7_ aj.length co7_):Value).ownBlock∧nO k_ bm∧nO k_ u168000∧k_≠au∧k_≠an) (.slice az af.length aw) af)∧Aside0 (Kd.R Kd.bool 4 w' w.heap.size (fun k_=>(w.heap.size≤k_)∧nO k_ bm) u168000 ai)∧Aside0 (w'.heap[au]? = some (.cells #[(.slice az af.length aw),(.slice aT ak.length aJ)] 25 (0,0)))∧Aside0 (w'.heap[an]? = some (.cells #[u168000] 97 (0,0)))∧Aside0 (Below w.heap.size w w'))
            case atStart=>exact⟨(aN),(ar),zt,H',⟨Nat.le_refl _⟩,⟨zR_ am⟩,⟨zR_ aq⟩,⟨by(with_reducible repeat(first|apply Kd.V_alloc|apply Kd.V_drewN|apply Kd.V_drew));exact ab.out⟩,⟨zR_ aa⟩,⟨zK_ ac⟩,⟨zK_ ah⟩,⟨zB_ HB⟩⟩
            case round =>
             clear H';(try clear c1);(try clear c3);(try clear bY);(try clear b5);(try clear c4);(try clear b6);(try clear b7);(try clear bJ);(try clear bz);(try clear bK);(try clear bU);(try clear bW);(try clear cm);(try clear cQ);(try clear cE);(try clear cF);(try clear cR);(try clear cG);(try clear cH);(try clear cn);(try clear cI);(try clear cT);(try clear a6);(try clear bb);(try clear bc);(try clear bn);(try clear bo);(try clear bf);(try clear bg);(try clear a7);(try clear bd);(try clear be);(try clear bp);(try clear bq);(try clear bh);(try clear bi);obtain⟨aD,ap,rfl,HA,cU,am,aq,ab,aa,ac,ah,HB⟩:=hrel
             cases gk with
             | zero=>exact absurd HA.out (by simp [ie_.l4])
             | succ k6 =>
              have H:=HA.out;clear HA;simp only [ie_.l4] at H
              have eC:=zpc H;replace H:=zph H
              have e8:=dT eC;clear eC
              have eD:=zpc H;replace H:=zph H
              have e9:=dT eD;clear eD
              obtain⟨bq92,hbq92⟩ : ∃ b_:Bool,b_=(rdOf false aD ap):=⟨_,rfl⟩
              replace H:(if bq92=true then (ie_.l3 k6 l1 aj ao (wrap64 (ay+1)) aD (af.length:Int) (wrap64 (ar+1)) af ak ai) else (if ap<(aj.length:Int) then (if 0≤(rd aj ap) then (if (rd aj ap)<(af.length:Int) then (ie_.l5 k6 l1 aj ao (wrap64 (ay+1)) (aD.set (ap:Int).toNat true) (rd af (rd aj ap)) (af.length:Int) ar af ak ai) else (none)) else (none)) else (none)))=some r:=by rw [← hbq92] at H;exact H
              have Nbq92:=A0_ hbq92;clear hbq92
              by_cases dv:bq92=true
              ·subst dv
               rw [if_pos rfl] at H;have H':=A0_ H;clear H;obtain⟨iM,iN,f7⟩:=rS aq.out;subst f7
               have bP:0≤(ap:Int):=zd
               have bQ:ap<(aD.length:Int):=zd
               obtain⟨d9,dP,bv⟩:=Kd.at_bool (rR aq.out).2.2 ap bP bQ
               (try rw [← Nbq92.out] at bv)
               cases dP
               replace bP:=eq_true bP;replace bQ:=eq_true bQ
               go_wp2
               go_roundg k6
               case measure=>have:=aY.out;have:=a5.out;have:=bk.out;have:=bX.out;have:=bO.out;have:=cU.out;omega
               case rel=>exact⟨((wrap64 (ay+1))),(aD),(wrap64 (ar+1)),zt,zt,H',⟨by have:=aY.out;have:=a5.out;have:=bk.out;have:=bX.out;have:=bO.out;have:=cU.out;omega⟩,⟨zR_ am⟩,⟨zR_ aq⟩,⟨by(with_reducible repeat(first|apply Kd.V_alloc|apply Kd.V_drewN|apply Kd.V_drew));exact ab.out⟩,⟨zR_ aa⟩,⟨zK_ ac⟩,⟨zK_ ah⟩,⟨zB_ HB⟩⟩
              replace dv:=Bool.eq_false_iff.mpr dv;subst dv
              rw [if_neg (show ¬ (false=true) by decide)] at H
              obtain⟨cg,dj⟩ : ∃ y_:List Bool,y_=(aD.set (ap:Int).toNat true):=⟨_,rfl⟩
              replace H:(if ap<(aj.length:Int) then (if 0≤(rd aj ap) then (if (rd aj ap)<(af.length:Int) then (ie_.l5 k6 l1 aj ao (wrap64 (ay+1)) cg (rd af (rd aj ap)) (af.length:Int) ar af ak ai) else (none)) else (none)) else (none))=some r:=zH dj H
              have fa:=A0_ dj;clear dj
              have eE:=zpc H;replace H:=zph H
              have fb:=dT eE;clear eE
              have eF:=zpc H;replace H:=zph H
              have fc:=dT eF;clear eF
              have eG:=zpc H;replace H:=zph H
              have fd:=dT eG;clear eG;have H':=A0_ H;clear H;obtain⟨iO,bI,f8⟩:=rS aq.out;subst f8
              have bP:0≤(ap:Int):=zd
              have bQ:ap<(aD.length:Int):=zd
              obtain⟨d9,dP,bv⟩:=Kd.at_bool (rR aq.out).2.2 ap bP bQ
              (try rw [← Nbq92.out] at bv)
              cases dP
              replace bP:=eq_true bP;replace bQ:=eq_true bQ
              have dw:0≤(ap:Int):=zd
              have dx:(ap:Int)<((aD.length:Int):Int):=zd
              obtain⟨bj,iP,eH,eI,gl95,cl95,HG95⟩:=Kd.R_form aq.out (by omega)
              (first|cases eH|(injection eH with ea_ en_ ec_;(first|subst ea_|(injection ea_ with ea_;subst ea_));subst ec_;clear en_))
              have GB95:=A0_ eI;have GG95:=A0_ HG95;clear eI gl95 HG95
              (first|simp only [add_plain] at bv|skip)
              obtain⟨eJ,g6⟩:=Kd.R_celln false aq.out (ap:Int) dw dx
              replace dw:=eq_true dw;replace dx:=eq_true dx
              have HP100:=Kd.R_putg aq.out (ap:Int) true
              try go_wp2_with (first|((with_reducible refine gS (t:=4) (p:=120) rfl ?_);refine store_event (t:=4) (p:=120) (v := ?vo_w101) (w1:=(wr.setCell ⟨bj,(ap:Int).toNat,none⟩ (.bool true))) ?hg ?ho ?hn ?hr ?_;(case ho=>rfl);(case hg=>rfl);(case hn=>rfl);(case hr=>first|(go_simp;done)|(go_simp;rfl));intro dk hw;have hg:wr.grownBy dk (some bj):=(by rw [hw];exact HP100.2);have hp_:Kd.R Kd.bool 4 dk w.heap.size (fun k_=>(w.heap.size≤k_)∧nO k_ u168000) (.slice (some ⟨bj,0,none⟩) aD.length bI) cg:=(by rw [hw,fa.out];exact HP100.1);clear HP100;replace am:=A0_ (Kd.R_over' (v:=(.slice (some ⟨bj,0,none⟩) aD.length bI)) (zR_ am) (Kd.R_typed aq.out) (by decide) hg);replace ab:=A0_ (Kd.V_afterv (v:=(.slice (some ⟨bj,0,none⟩) aD.length bI)) (v1:=(.slice (some ⟨bj,0,none⟩) aD.length bI)) (ok:=(fun k_=>(P0_0_ k_∨w.heap.size≤k_)∧some k_≠((.slice Ao7_ aj.length co7_):Value).ownBlock∧nO k_ u168000∧k_≠au∧k_≠an)) (by(with_reducible repeat(first|apply Kd.V_alloc|apply Kd.V_drewN|apply Kd.V_drew));exact Kd.V_mono ab.out (fun _ hk=>⟨⟨hk.1,⟨hk.2.1,⟨hk.2.2.2.1,⟨hk.2.2.2.2.1,hk.2.2.2.2.2⟩⟩⟩⟩,hk.2.2.1⟩)) hg (.inl rfl));replace aa:=A0_ (Kd.R_after (v:=(.slice (some ⟨bj,0,none⟩) aD.length bI)) (v1:=(.slice (some ⟨bj,0,none⟩) aD.length bI)) (ok:=(fun k_=>(w.heap.size≤k_))) (zR_ aa) hg (.inl rfl));replace ac:=A0_ (blk_grown (g:=au) (o := .cells #[.slice az af.length aw,.slice aT ak.length aJ] 25 (0,0)) (zK_ ac) hg (Kd.R_ne aq.out ac.out (by decide)));replace ah:=A0_ (blk_grown (g:=an) (o := .cells #[u168000] 97 (0,0)) (zK_ ah) hg (Kd.R_ne aq.out ah.out (by decide)));replace aq:=A0_ (hp_);replace HB:=A0_ ((by rw [hw];exact bS (HB.out) GB95.out:Below w.heap.size w dk));clear hg hw hp_))
              replace am:=A0_ (rD am.out)
              replace aq:=A0_ (rD aq.out)
              replace ab:=A0_ (Kd.V_drew ab.out)
              replace aa:=A0_ (rD aa.out)
              replace ac:=A0_ (kD ac.out)
              replace ah:=A0_ (kD ah.out)
              replace HB:=A0_ (bD HB.out)
              obtain⟨iq,eb,ec⟩:=rS am.out
              (first|subst ec|(injection ec with f1_ f2_ f3_;have f4_:=f1_.symm;have f5_:=f3_.symm;clear f1_ f2_ f3_;subst f4_;subst f5_))
              have dl:0≤(ap:Int):=zd
              have dn:ap<(aj.length:Int):=zd
              obtain⟨cJ,f9,cz⟩:=tI (rR am.out).2.2 ap dl dn
              cases f9
              replace dl:=eq_true dl;replace dn:=eq_true dn
              have dp:0≤((rd aj ap):Int):=zd
              have dq:(rd aj ap)<(af.length:Int):=zd
              obtain⟨cp,gd,cC⟩:=tI (Kd.V_reads' ab.out).2.2 (rd aj ap) dp dq
              cases gd
              replace dp:=eq_true dp;replace dq:=eq_true dq
              refine start_ (n:=9) (S:=fun w'=>w'.cell? ⟨au,0,none⟩=some (.slice (some cp) af.length aw)∧w'.cell? ⟨au,1,none⟩=some (.slice aT ak.length aJ)∧w'.cell? (cJ.add (ap).toNat)=some (.int .i64 (rd aj ap))∧w'.cell? (cp.add ((rd aj ap)).toNat)=some (.int .i64 (rd af (rd aj ap)))) (ds := []) (bs 9 0) (by kernel_rfl) rfl rfl ⟨(kC ac.out 0).trans rfl,(kC ac.out 1).trans rfl,cz,cC⟩ (fun hHeld => ?_);refine with_tabW ie_.tab35 ie_.bits35 (fun HT_ HW_ => ?_)
              generalize dk.drew=iQ at am aq ab aa ac ah HB cz cC hHeld ⊢
              refine zP 0 (some 121) (bs 9 1) ?_
              refine zP 2 (some 123) (bs 9 5) ?_
              refine zP 3 (some 124) (bs 9 13) ?_
              refine zP 4 (some 125) (bs 9 29) ?_
              refine zT 1 (some 122) (bs 9 31) hHeld ?_
              refine zT 5 (some 126) (bs 9 63) hHeld ?_
              refine zP 6 (some 127) (bs 9 127) ?_
              refine zT 7 (some 128) (bs 9 255) hHeld ?_
              refine zP 8 (some 20) (bs 9 511) ?_
              refine done_ (done_of HT_.out (by kernel_rfl)) ?_
              try go_wp2
              (try generalize Value.pointer (some (d9.add (ap:Int).toNat))=pz_)
              (try generalize Value.pointer (some (cJ.add (ap:Int).toNat))=pz_)
              go_loopg [20] k6 (fun kq v20 w' => ∃ (aG:Int),v20 = .int .i64 aG∧Aside0 (ie_.l5 kq l1 aj ao (wrap64 (ay+1)) cg aG (af.length:Int) ar af ak ai=some r)∧Aside0 (kq≤k6)∧Aside0 (Kd.R (Kd.int .i64) 3 w' w.heap.size (fun k_=>(w.heap.size≤k_)) (.slice (some cJ) aj.length eb) aj)∧Aside0 (Kd.R Kd.bool 4 w' w.heap.size (fun k_=>(w.heap.size≤k_)∧nO k_ u168000) (.slice (some ⟨bj,0,none⟩) aD.length bI) cg)∧Aside0 (Kd.V (Kd.int .i64) 3 w' w.heap.size (fun k_=>(P0_0_ k_∨w.heap.size≤k_)∧some k_≠((.slice (some cJ) aj.length eb):Value).ownBlock∧some k_≠((.slice (some ⟨bj,0,none⟩) aD.length bI):Value).ownBlock∧nO k_ u168000∧k_≠au∧k_≠an) (.slice (some cp) af.length aw) af)∧Aside0 (Kd.R Kd.bool 4 w' w.heap.size (fun k_=>(w.heap.size≤k_)∧some k_≠((.slice (some ⟨bj,0,none⟩) aD.length bI):Value).ownBlock) u168000 ai)∧Aside0 (w'.heap[au]? = some (.cells #[(.slice (some cp) af.length aw),(.slice aT ak.length aJ)] 25 (0,0)))∧Aside0 (w'.heap[an]? = some (.cells #[u168000] 97 (0,0)))∧Aside0 (Below w.heap.size w w'))
              case atStart=>exact⟨(rd af (rd aj ap)),zt,H',⟨Nat.le_refl _⟩,⟨zR_ am⟩,⟨zR_ aq⟩,⟨by(with_reducible repeat(first|apply Kd.V_alloc|apply Kd.V_drewN|apply Kd.V_drew));exact Kd.V_mono ab.out (fun _ hk=>⟨hk.1.1,⟨hk.1.2.1,⟨hk.2,⟨hk.1.2.2.1,⟨hk.1.2.2.2.1,hk.1.2.2.2.2⟩⟩⟩⟩⟩)⟩,⟨zR_ aa⟩,⟨zK_ ac⟩,⟨zK_ ah⟩,⟨zB_ HB⟩⟩
              case round =>
               clear H';(try clear c1);(try clear c3);(try clear bY);(try clear b5);(try clear c4);(try clear b6);(try clear b7);(try clear bJ);(try clear bz);(try clear bK);(try clear bU);(try clear bW);(try clear cm);(try clear cQ);(try clear cE);(try clear cF);(try clear cR);(try clear cG);(try clear cH);(try clear cn);(try clear cI);(try clear cT);(try clear eC);(try clear e8);(try clear eD);(try clear e9);(try clear dv);(try clear dw);(try clear dx);(try clear eE);(try clear fb);(try clear eF);(try clear fc);(try clear eG);(try clear fd);(try clear a6);(try clear bb);(try clear bc);(try clear bn);(try clear bo);(try clear bf);(try clear bg);(try clear a7);(try clear bd);(try clear be);(try clear bp);(try clear bq);(try clear bh);(try clear bi);(try clear bv);(try clear cz);(try clear cC);(try clear eJ);(try clear bP);(try clear dl);(try clear dp);(try clear dw);(try clear bQ);(try clear dn);(try clear dq);(try clear dx);obtain⟨aG,rfl,HA,ed,am,aq,ab,aa,ac,ah,HB⟩:=hrel;have av:=(rR aq.out).1;rw [av] at aq;(try simp only [av]);(try simp only [av] at ac);(try simp only [av] at ah);(try simp only [av] at am);(try simp only [av] at ab);(try simp only [av] at aa)
               cases gk with
               | zero=>exact absurd HA.out (by simp [ie_.l5])
               | succ k7 =>
                have H:=HA.out;clear HA;simp only [ie_.l5] at H
                have eK:=zpc H;replace H:=zph H
                have g7:=dT eK;clear eK
                have eL:=zpc H;replace H:=zph H
                have eM:=dT eL;(try simp only [av] at eM);clear eL
                obtain⟨bq106,hbq106⟩ : ∃ b_:Bool,b_=(rdOf false ai aG):=⟨_,rfl⟩
                replace H:(if bq106=true then (ie_.l4 k7 l1 aj ao (wrap64 (ay+1)) cg aG (af.length:Int) ar af ak ai) else (if aG<(af.length:Int) then (ie_.l5 k7 l1 aj ao (wrap64 (ay+1)) cg (rd af aG) (af.length:Int) ar af ak ai) else (none)))=some r:=by rw [← hbq106] at H;exact H
                have Nbq106:=A0_ hbq106;clear hbq106
                by_cases dr:bq106=true
                ·subst dr
                 rw [if_pos rfl] at H;have H':=A0_ H;clear H;have g8:=aH.out;have g9:=aE.out
                 have gf:wr.cell? ⟨an,0,none⟩=some (u168000):=(kC ah.out 0).trans rfl
                 have gg:=kF ah.out 0;obtain⟨ir,iu,fe⟩:=rS aa.out;subst fe
                 have ch:0≤(aG:Int):=zd
                 have ci:aG<(ai.length:Int):=zd
                 obtain⟨ff,dQ,bx⟩:=Kd.at_bool (rR aa.out).2.2 aG ch ci
                 (try rw [← Nbq92.out] at bx)
                 (try rw [← Nbq106.out] at bx)
                 cases dQ
                 replace ch:=eq_true ch;replace ci:=eq_true ci
                 go_wp2
                 (try simp only [← av])
                 go_roundg k7
                 case measure=>have:=aY.out;have:=a5.out;have:=bk.out;have:=bX.out;have:=bO.out;have:=cU.out;have:=ed.out;omega
                 case rel=>exact⟨(cg),(aG),zt,H',⟨by have:=aY.out;have:=a5.out;have:=bk.out;have:=bX.out;have:=bO.out;have:=cU.out;have:=ed.out;omega⟩,⟨by(try simp only [av]);(with_reducible repeat(first|apply rA|apply rN|apply rD));exact am.out⟩,⟨by(try simp only [av]);(with_reducible repeat(first|apply rA|apply rN|apply rD));exact aq.out⟩,⟨by(try simp only [av]);(with_reducible repeat(first|apply Kd.V_alloc|apply Kd.V_drewN|apply Kd.V_drew));exact ab.out⟩,⟨by(try simp only [av]);(with_reducible repeat(first|apply rA|apply rN|apply rD));exact aa.out⟩,⟨by(try simp only [av]);exact zK_ ac⟩,⟨by(try simp only [av]);exact zK_ ah⟩,⟨zB_ HB⟩⟩
                replace dr:=Bool.eq_false_iff.mpr dr;subst dr
                rw [if_neg (show ¬ (false=true) by decide)] at H
                have eN:=zpc H;replace H:=zph H
                have eO:=dT eN;(try simp only [av] at eO);clear eN;have H':=A0_ H;clear H;have hh:=aH.out;have hu:=aE.out
                have gh:wr.cell? ⟨an,0,none⟩=some (u168000):=(kC ah.out 0).trans rfl
                have gj:=kF ah.out 0;obtain⟨iv,iw,fg⟩:=rS aa.out;subst fg
                have ch:0≤(aG:Int):=zd
                have ci:aG<(ai.length:Int):=zd
                obtain⟨ff,dQ,bx⟩:=Kd.at_bool (rR aa.out).2.2 aG ch ci
                (try rw [← Nbq92.out] at bx)
                (try rw [← Nbq106.out] at bx)
                cases dQ
                replace ch:=eq_true ch;replace ci:=eq_true ci;have gl:=zc0 ac;have gn:=zc1 ac;have gp:=kF ac.out 0;have gq:=kF ac.out 1
                have dR:0≤(aG:Int):=zd
                have dS:aG<(af.length:Int):=zd
                obtain⟨fh,gr,gQ⟩:=tI (Kd.V_reads' ab.out).2.2 aG dR dS
                obtain rfl:cp=fh:=(by injection gr)
                replace dR:=eq_true dR;replace dS:=eq_true dS
                go_wp2
                (try simp only [← av])
                go_roundg k7
                case measure=>have:=aY.out;have:=a5.out;have:=bk.out;have:=bX.out;have:=bO.out;have:=cU.out;have:=ed.out;omega
                case rel=>exact⟨(rd af aG),zt,H',⟨by have:=aY.out;have:=a5.out;have:=bk.out;have:=bX.out;have:=bO.out;have:=cU.out;have:=ed.out;omega⟩,⟨by(try simp only [av]);(with_reducible repeat(first|apply rA|apply rN|apply rD));exact am.out⟩,⟨by(try simp only [av]);(with_reducible repeat(first|apply rA|apply rN|apply rD));exact aq.out⟩,⟨by(try simp only [av]);(with_reducible repeat(first|apply Kd.V_alloc|apply Kd.V_drewN|apply Kd.V_drew));exact ab.out⟩,⟨by(try simp only [av]);(with_reducible repeat(first|apply rA|apply rN|apply rD));exact aa.out⟩,⟨by(try simp only [av]);exact zK_ ac⟩,⟨by(try simp only [av]);exact zK_ ah⟩,⟨zB_ HB⟩⟩
         rw [if_neg cn] at H;have cI:=dF cn;clear cn;obtain⟨aV,gs,H⟩:=zbind H
         obtain⟨gt,dt⟩ : ∃ y_:List Int,y_=(([ao,ay,wrap64 ((aV.length:Int) - ao),wrap64 ((l1.length:Int) - (wrap64 ((aV.length:Int) - ao))),wrap64 (Int.tdiv (wrap64 ((wrap64 ((wrap64 ((wrap64 (2*ao)) - (aV.length:Int)))+(l1.length:Int))) - ay)) 2)]:List Int)):=⟨_,rfl⟩
         replace H:(some gt)=some r:=zH dt H
         have ee:=A0_ dt;clear dt;obtain rfl:=sI H;have hD:=aE.out;have hE:=aH.out;have gv:=zc0 ac;have gw:=zc1 ac;have gx:=kF ac.out 0;have gy:=kF ac.out 1
         go_wp2_with (first|((with_reducible refine gC (f:=81) rfl ?_);refine zJ (some 142) Tryz.func81 #[.slice az af.length aw] ?_;(with_reducible refine(i9_.calls k4 _ _ af aV _ ?aZ ?a4 gs.out).mono ?_);(case aZ=>repeat(first|exact(Kd.V_reads' ab.out).2.2|(with_reducible refine cA ?_ _)|(with_reducible refine cN ?_ _)|(with_reducible refine cD ?_)));(case a4=>exact(Kd.V_reads' ab.out).2.1);rintro e iR ⟨iS,rfl,aQ,hb⟩;refine⟨_,rfl,?_⟩;replace ab:=A0_ (Kd.V_elder' (by(with_reducible repeat(first|apply Kd.V_alloc|apply Kd.V_drewN|apply Kd.V_drew));exact ab.out) (Kd.S_base aQ) hb);have du:=A0_ (Kd.N_lower (Kd.N_mono (ok':=fun k_=>(P0_0_ k_∨w.heap.size≤k_)∧some k_≠((.slice Ao7_ aj.length co7_):Value).ownBlock∧nO k_ bm∧nO k_ u168000∧k_≠au∧k_≠an) (Kd.S_N (Kd.S_bound aQ)) (fun k_ hk_=>⟨(.inr (Nat.le_trans (bZ (zB_ HB)) hk_.2.1)),(Kd.fresh' (rX (zR_ am)) k_ hk_.2.1),(Kd.fresh' (rX (zR_ aq)) k_ hk_.2.1),(Kd.fresh' (rX (zR_ aa)) k_ hk_.2.1),(Kd.freshB (g:=au) (o := .cells #[.slice az af.length aw,.slice aT ak.length aJ] 25 (0,0)) (zK_ ac) k_ hk_.2.1),(Kd.freshB (g:=an) (o := .cells #[u168000] 97 (0,0)) (zK_ ah) k_ hk_.2.1)⟩)) (bZ (zB_ HB)));replace am:=zR am hb;replace aq:=zR aq hb;replace aa:=zR aa hb;replace ac:=zK ac hb;replace ah:=zK ah hb;replace HB:=zB HB hb;(try clear hb);(try clear aQ);obtain⟨ix,iy,fi⟩:=Kd.N_slice du.out;subst fi)|((with_reducible refine gD (N:=164) rfl ?_);refine Kd.R_lit (Kd.int .i64) _ 3 ?hg (N:=164) ?hd (xs:=([ao,ay,wrap64 ((aV.length:Int) - ao),wrap64 ((l1.length:Int) - (wrap64 ((aV.length:Int) - ao))),wrap64 (Int.tdiv (wrap64 ((wrap64 ((wrap64 ((wrap64 (2*ao)) - (aV.length:Int)))+(l1.length:Int))) - ay)) 2)]:List Int)) (inner := [.int .i64 ao,.int .i64 ay,.int .i64 (wrap64 ((aV.length:Int) - ao)),.int .i64 (wrap64 ((l1.length:Int) - (wrap64 ((aV.length:Int) - ao)))),.int .i64 (wrap64 (Int.tdiv (wrap64 ((wrap64 ((wrap64 ((wrap64 (2*ao)) - (aV.length:Int)))+(l1.length:Int))) - ay)) 2))]) (ok:=fun _=>True) (okp:=fun _=>True) ?hr ?hp (fun _ hk=>hk) trivial (Below.refl _ _) (Nat.le_refl _) (by simp) ?_;(case hd=>rfl);(case hg=>rfl);(case hr=>first|(go_simp;done)|(go_simp;rfl));(case hp=>exact(Reps.one (show Kd.M (Kd.int .i64) _ _ _ ao [.int .i64 ao] from rfl) (Reps.one (show Kd.M (Kd.int .i64) _ _ _ ay [.int .i64 ay] from rfl) (Reps.one (show Kd.M (Kd.int .i64) _ _ _ (wrap64 ((aV.length:Int) - ao)) [.int .i64 (wrap64 ((aV.length:Int) - ao))] from rfl) (Reps.one (show Kd.M (Kd.int .i64) _ _ _ (wrap64 ((l1.length:Int) - (wrap64 ((aV.length:Int) - ao)))) [.int .i64 (wrap64 ((l1.length:Int) - (wrap64 ((aV.length:Int) - ao))))] from rfl) (Reps.one (show Kd.M (Kd.int .i64) _ _ _ (wrap64 (Int.tdiv (wrap64 ((wrap64 ((wrap64 ((wrap64 (2*ao)) - (aV.length:Int)))+(l1.length:Int))) - ay)) 2)) [.int .i64 (wrap64 (Int.tdiv (wrap64 ((wrap64 ((wrap64 ((wrap64 (2*ao)) - (aV.length:Int)))+(l1.length:Int))) - ay)) 2))] from rfl) (Reps.none _ _)))))));intro iT iU bl hb hg_ hnew_;clear hg_ hnew_;(first|rw [← ee.out] at bl|(simp only [Int.reduceToNat] at bl;rw [← ee.out] at bl));replace aq:=zR aq hb;replace ab:=A0_ (Kd.V_elder' (by(with_reducible repeat(first|apply Kd.V_alloc|apply Kd.V_drewN|apply Kd.V_drew));exact ab.out) (Kd.R_base bl) hb);replace aa:=zR aa hb;replace du:=A0_ (Kd.N_elder' (by(with_reducible repeat(first|apply Kd.N_alloc|apply Kd.N_drewN|apply Kd.N_drew));exact du.out) (Kd.R_base bl) hb);have fj:=A0_ (rL (Kd.R_new' (Kd.R_newM (M:=fun k_=>(w.heap.size≤k_)) bl (bZ (zB_ HB)) (fun k_ h_=>h_)) (rX (zR_ am))) (bZ (zB_ HB)));replace am:=A0_ (Kd.R_elder' (zR_ am) (Kd.R_base bl) hb);replace ac:=zK ac hb;replace ah:=zK ah hb;replace HB:=zB HB hb;clear hb bl))
         go_ret
         exact⟨_,by first|rfl|(simp [*] <;> rfl),zmR fj (fun _ hk=>hk.1.1),zB_ HB⟩
end Go.Proofs.YtjebcgbmlbemcaaGreatDoor.PFnExecuteContract
