-- Made by a program of this session (wip/tools) out of the loaded program; not trusted: Lean checks it.
import Derived.Test.YtmegggomhjgehaaPFnCoverx0
import Derived.Test.YtmegggomhjgehaaPFnCoverx2
-- packed
-- packed2
namespace Go.Proofs.Ytmegggomhjgehaa.PFnCover
open Go.RowKit Go.Proofs.YtmegggomhjgehaaW.PrintWords Go.Proofs.YtmegggomhjgehaaW.PrintLast Go.Proofs.YtmegggomhjgehaaW.PrintMore
attribute [local go_sem] max2_int min2_int max_two min_two max_three min_three max_four min_four
set_option linter.unusedVariables false
set_option linter.unusedSimpArgs false

/-! ### impl_edgeOf: function 104 -/
def impl_edgeOf.l0:Nat→List Int→List Int→Int→Int→List Int→List Int→Option (List Int)
  | 0,_,_,_,_,_,_=>none
  | k+1,x3,x11,x12,x13,x149000,x149001=>if x13<x12 then (if 0≤x13 then (if x13<(x11.length:Int) then (if 0≤(rd x11 x13) then (if (rd x11 x13)<(x149001.length:Int) then (if (rd x11 x13)<(x3.length:Int) then (if 0≤(rd x149001 (rd x11 x13)) then (if (rd x149001 (rd x11 x13))<(x3.length:Int) then (impl_edgeOf.l0 k ((x3.set ((rd x11 x13):Int).toNat x13).set ((rd x149001 (rd x11 x13)):Int).toNat x13) x11 x12 (wrap64 (x13+1)) x149000 x149001) else (none)) else (none)) else (none)) else (none)) else (none)) else (none)) else (none)) else (some x3)
def impl_edgeOf.f (k:Nat) (l0_0:List Int) (l0_1:List Int):Option (List Int):=if 0≤(l0_1.length:Int) then (if ((l0_1.length:Int):Int).toNat≤35184372088832 then ((impl_edgesOf.f k l0_0 l0_1).bind fun t152=>(impl_edgeOf.l0 k (List.replicate ((l0_1.length:Int):Int).toNat 0) t152 (t152.length:Int) 0 l0_0 l0_1)) else (none)) else (none)
set_option maxHeartbeats 8000000 in
set_option maxRecDepth 100000 in
theorem impl_edgeOf.calls (k:Nat) (A0_0:Option Addr) (c0_0:Nat) (l0_0:List Int) (A0_1:Option Addr) (c0_1:Nat) (l0_1:List Int) (r:List Int) (w:World) (hr0_0:Kd.C (Kd.int .i64) w A0_0 l0_0.length l0_0) (hc0_0:l0_0.length≤c0_0) (hr0_1:Kd.C (Kd.int .i64) w A0_1 l0_1.length l0_1) (hc0_1:l0_1.length≤c0_1) (h:impl_edgeOf.f k l0_0 l0_1=some r) :
    Calls Try.prog 104 #[.agg #[.slice A0_0 l0_0.length c0_0,.slice A0_1 l0_1.length c0_1]] w fun e w' => ∃ v0_:Value,e = .returned (v0_)∧Kd.R (Kd.int .i64) 3 w' w.heap.size (fun _=>True) v0_ r∧Below w.heap.size w w':=by
 have hu25:=Try.underlying25;have HR0_0:=A0_ hr0_0;have HC0_0:=A0_ hc0_0;clear hr0_0 hc0_0;have HR0_1:=A0_ hr0_1;have HC0_1:=A0_ hc0_1;clear hr0_1 hc0_1
 have HB:=A0_ (Below.refl w.heap.size w)
 have H:(if 0≤(l0_1.length:Int) then (if ((l0_1.length:Int):Int).toNat≤35184372088832 then ((impl_edgesOf.f k l0_0 l0_1).bind fun t152=>(impl_edgeOf.l0 k (List.replicate ((l0_1.length:Int):Int).toNat 0) t152 (t152.length:Int) 0 l0_0 l0_1)) else (none)) else (none))=some r:=h
 clear h
 have c2:=zpc H;replace H:=zph H
 have c2b0:=eq_true c2;have c2b1:=dT c2;clear c2
 have c3:=zpc H;replace H:=zph H
 have c3b0:=eq_true c3;have c3b1:=dT c3;clear c3
 obtain⟨y149,hy149⟩ : ∃ y_:List Int,y_=(List.replicate ((l0_1.length:Int):Int).toNat 0):=⟨_,rfl⟩
 replace H:((impl_edgesOf.f k l0_0 l0_1).bind fun t152=>(impl_edgeOf.l0 k y149 t152 (t152.length:Int) 0 l0_0 l0_1))=some r:=zH hy149 H
 have Ny149:=A0_ hy149;clear hy149;obtain⟨t152,A4,H⟩:=zbind H;have H':=A0_ H;clear H
 go_enter Try.func104,Try.ntmps104
 go_wp2_with (first|((with_reducible refine gD (N:=1) rfl ?_);refine zX (N:=1) (cs := #[.slice A0_0 l0_0.length c0_0,.slice A0_1 l0_1.length c0_1]) (t:=25) ?_;intro gb148 hg w5 hbox hb;have BK148:=A0_ (hbox);have GW148:=zG hg HB;have GE148:=zG hg HB;replace HB:=zB HB hb;clear hb hbox hg;have hcz6_0:=zc0 BK148;have hcz6_1:=zc1 BK148;have hfz6_0:=kF BK148.out 0;have hfz6_1:=kF BK148.out 1)|((with_reducible refine gD (N:=9) rfl ?_);refine Kd.R_make (Kd.int .i64) _ 3 rfl (N:=9) rfl 23 _ _ rfl (l0_1.length:Int) rfl rfl Try.underlying23 (.int .i64 0) 8 info3 rfl (by decide) (by omega) 0 (ok:=fun _=>True) (okp:=fun _=>True) rfl (fun _ hk=>hk) trivial (zd) (Nat.le_trans (Nat.mul_le_mul_right _ (zd:(l0_1.length:Int).toNat≤35184372088832)) (by omega)) (Below.refl _ _) (Nat.le_refl _) ?_;intro v150 w7 ho8 hb hg_ hnew_;clear hg_ hnew_;(first|rw [← Ny149.out] at ho8|(simp only [Int.reduceToNat] at ho8;rw [← Ny149.out] at ho8));have HO151:=A0_ (rL ho8 (bZ (zB_ HB)));replace BK148:=zK BK148 hb;replace HB:=zB HB hb;clear hb ho8;have hcz9_0:=zc0 BK148;have hcz9_1:=zc1 BK148;have hfz9_0:=kF BK148.out 0;have hfz9_1:=kF BK148.out 1)|((with_reducible refine gC (f:=105) rfl ?_);refine zJ (some 11) Try.func105 #[.agg #[.slice A0_0 l0_0.length c0_0,.slice A0_1 l0_1.length c0_1]] ?_;(with_reducible refine(impl_edgesOf.calls k _ _ l0_0 _ _ l0_1 t152 _ ?side1 ?side2 ?side3 ?side4 A4.out).mono ?_);(case side1=>exact zC HR0_0 HB);(case side2=>exact HC0_0.out);(case side3=>exact zC HR0_1 HB);(case side4=>exact HC0_1.out);rintro e w10 ⟨v153,rfl,ho0,hb⟩;refine⟨_,rfl,?_⟩;have HO154:=A0_ (rL (Kd.R_new' ho0 (rX (zR_ HO151))) (bZ (zB_ HB)));replace HO151:=A0_ (Kd.R_elder' (zR_ HO151) (Kd.R_base ho0) hb);replace BK148:=zK BK148 hb;replace HB:=zB HB hb;(try clear hb);(try clear ho0);obtain⟨Ao11,co11,eo11⟩:=rS HO154.out;subst eo11))
 go_loopg [13] k (fun kq v13 w' => ∃ (x3_1:List Int) (x13_1:Int),v13 = .int .i64 x13_1∧Aside0 (impl_edgeOf.l0 kq x3_1 t152 (t152.length:Int) x13_1 l0_0 l0_1=some r)∧Aside0 (kq≤k)∧Aside0 (Kd.R (Kd.int .i64) 3 w' w.heap.size (fun k_=>some k_≠((.slice Ao11 t152.length co11):Value).ownBlock) v150 x3_1)∧Aside0 (Kd.R (Kd.int .i64) 3 w' w.heap.size (fun k_=>some k_≠(v150:Value).ownBlock) (.slice Ao11 t152.length co11) t152)∧Aside0 (w'.heap[gb148]? = some (.cells #[(.slice A0_0 l0_0.length c0_0),(.slice A0_1 l0_1.length c0_1)] 25 (0,0)))∧Aside0 (Below w.heap.size w w'))
 case atStart=>exact⟨(y149),(0),zt,H',⟨Nat.le_refl _⟩,⟨zmR HO151 (fun _ hk=>hk.2)⟩,⟨zmR HO154 (fun _ hk=>hk.2)⟩,⟨zK_ BK148⟩,⟨zB_ HB⟩⟩
 case round =>
  clear H';(try clear c1);(try clear c2);(try clear c2b0);(try clear c2b1);(try clear p2);(try clear c3);(try clear c3b0);(try clear c3b1);(try clear c10);(try clear hcz6_0);(try clear hcz6_1);(try clear hcz9_0);(try clear hcz9_1);(try clear hfz6_0);(try clear hfz6_1);(try clear hfz9_0);(try clear hfz9_1);obtain⟨x3_1,x13_1,rfl,HA,HK1,HO_3,HO_11,BK148,HB⟩:=hrel
  cases gk with
  | zero=>exact absurd HA.out (by simp [impl_edgeOf.l0])
  | succ k1 =>
   have H:=HA.out;clear HA;simp only [impl_edgeOf.l0] at H
   by_cases c12:x13_1<(t152.length:Int)
   ·rw [if_pos c12] at H
    have c12b0:=dT c12;clear c12
    have c13:=zpc H;replace H:=zph H
    have c13b0:=dT c13;clear c13
    have c14:=zpc H;replace H:=zph H
    have c14b0:=dT c14;clear c14
    have c15:=zpc H;replace H:=zph H
    have c15b0:=dT c15;clear c15
    have c16:=zpc H;replace H:=zph H
    have c16b0:=dT c16;clear c16
    have c17:=zpc H;replace H:=zph H
    have c17b0:=dT c17;clear c17
    obtain⟨y157,hy157⟩ : ∃ y_:List Int,y_=(x3_1.set ((rd t152 x13_1):Int).toNat x13_1):=⟨_,rfl⟩
    replace H:(if 0≤(rd l0_1 (rd t152 x13_1)) then (if (rd l0_1 (rd t152 x13_1))<(x3_1.length:Int) then (impl_edgeOf.l0 k1 (y157.set ((rd l0_1 (rd t152 x13_1)):Int).toNat x13_1) t152 (t152.length:Int) (wrap64 (x13_1+1)) l0_0 l0_1) else (none)) else (none))=some r:=zH hy157 H
    have Ny157:=A0_ hy157;clear hy157
    have c19:=zpc H;replace H:=zph H
    have c19b0:=dT c19;clear c19
    have c20:=zpc H;replace H:=zph H
    have c20b0:=dT c20;clear c20
    obtain⟨y158,hy158⟩ : ∃ y_:List Int,y_=(y157.set ((rd l0_1 (rd t152 x13_1)):Int).toNat x13_1):=⟨_,rfl⟩
    replace H:(impl_edgeOf.l0 k1 y158 t152 (t152.length:Int) (wrap64 (x13_1+1)) l0_0 l0_1)=some r:=zH hy158 H
    have Ny158:=A0_ hy158;clear hy158;have H':=A0_ H;clear H
    have p155:0≤(x13_1:Int):=zd
    have q155:x13_1<(t152.length:Int):=zd
    obtain⟨ad155,e155,hx155_0⟩:=tI (rR HO_11.out).2.2 x13_1 p155 q155
    cases e155
    replace p155:=eq_true p155;replace q155:=eq_true q155;have hcz22_0:=zc0 BK148;have hcz22_1:=zc1 BK148;have hfz22_0:=kF BK148.out 0;have hfz22_1:=kF BK148.out 1
    have p156:0≤((rd t152 x13_1):Int):=zd
    have q156:(rd t152 x13_1)<(l0_1.length:Int):=zd
    obtain⟨ad156,e156,hx156_0⟩:=tI HR0_1.out (rd t152 x13_1) p156 q156
    cases e156
    try replace hx156_0:=(HB.out.cell (wL w _ hx156_0)).trans hx156_0
    replace p156:=eq_true p156;replace q156:=eq_true q156
    have p18:0≤((rd t152 x13_1):Int):=zd
    have q18:((rd t152 x13_1):Int)<((x3_1.length:Int):Int):=zd
    obtain⟨go18,co18,eo18,gb18,gl18,cl18,HG18⟩:=Kd.R_form HO_3.out (by omega)
    (first|cases eo18|(injection eo18 with ea_ en_ ec_;(first|subst ea_|(injection ea_ with ea_;subst ea_));subst ec_;clear en_))
    have GB18:=A0_ gb18;have GG18:=A0_ HG18;clear gb18 gl18 HG18
    obtain⟨hx18_0,hf18_0⟩:=Kd.R_celln 0 HO_3.out ((rd t152 x13_1):Int) p18 q18
    replace p18:=eq_true p18;replace q18:=eq_true q18
    have HP23:=Kd.R_putg HO_3.out ((rd t152 x13_1):Int) x13_1
    go_wp2_with (first|((with_reducible refine gS (t:=3) (p:=28) rfl ?_);refine store_event (t:=3) (p:=28) (v := ?vo_w24) (w1:=(wr.setCell ⟨go18,((rd t152 x13_1):Int).toNat,none⟩ (.int .i64 x13_1))) ?hg ?ho ?hn ?hr ?_;(case ho=>rfl);(case hg=>rfl);(case hn=>rfl);(case hr=>first|(go_simp;done)|(go_simp;rfl));intro w24 hw;have hg:wr.grownBy w24 (some go18):=(by rw [hw];exact HP23.2);have hp_:Kd.R (Kd.int .i64) 3 w24 w.heap.size (fun k_=>some k_≠(.slice (some ad155) t152.length co11:Value).ownBlock) (.slice (some ⟨go18,0,none⟩) x3_1.length co18) y157:=(by rw [hw,Ny157.out];exact HP23.1);clear HP23;replace HO_11:=A0_ (Kd.R_after (v:=(.slice (some ⟨go18,0,none⟩) x3_1.length co18)) (v1:=(.slice (some ⟨go18,0,none⟩) x3_1.length co18)) (ok:=(fun _=>True)) (zmR HO_11 (fun _ hk=>⟨trivial,hk⟩)) hg (.inl rfl));replace BK148:=A0_ (blk_grown (g:=gb148) (o := .cells #[.slice A0_0 l0_0.length c0_0,.slice (some ad156) l0_1.length c0_1] 25 (0,0)) (zK_ BK148) hg (Kd.R_ne HO_3.out BK148.out (by decide)));replace HO_3:=A0_ (hp_);replace HB:=A0_ ((by rw [hw];exact bS (HB.out) GB18.out:Below w.heap.size w w24));clear hg hw hp_;have p21:0≤((rd l0_1 (rd t152 x13_1)):Int):=zd;have q21:((rd l0_1 (rd t152 x13_1)):Int)<((x3_1.length:Int):Int):=zd;obtain⟨hx21_0,hf21_0⟩:=Kd.R_celln 0 HO_3.out ((rd l0_1 (rd t152 x13_1)):Int) p21 q21;replace p21:=eq_true p21;replace q21:=eq_true q21;obtain⟨hy25_,hz25_⟩:=Kd.R_celln 0 HO_3.out ((rd l0_1 (rd t152 x13_1)):Int) (zd) (zd);have HP25:=Kd.R_putg HO_3.out ((rd l0_1 (rd t152 x13_1)):Int) x13_1)|((with_reducible refine gS (t:=3) (p:=29) rfl ?_);refine store_event (t:=3) (p:=29) (v := ?vo_w26) (w1:=(w24.setCell ⟨go18,((rd l0_1 (rd t152 x13_1)):Int).toNat,none⟩ (.int .i64 x13_1))) ?hg ?ho ?hn ?hr ?_;(case ho=>rfl);(case hg=>rfl);(case hn=>rfl);(case hr=>first|(go_simp;done)|(go_simp;rfl));intro w26 hw;have hg:w24.grownBy w26 (some go18):=(by rw [hw];exact HP25.2);have hp_:Kd.R (Kd.int .i64) 3 w26 w.heap.size (fun k_=>some k_≠(.slice (some ad155) t152.length co11:Value).ownBlock) (.slice (some ⟨go18,0,none⟩) x3_1.length co18) y158:=(by rw [hw,Ny158.out];exact HP25.1);clear HP25;replace HO_11:=A0_ (Kd.R_after (v:=(.slice (some ⟨go18,0,none⟩) x3_1.length co18)) (v1:=(.slice (some ⟨go18,0,none⟩) x3_1.length co18)) (ok:=(fun _=>True)) (zR_ HO_11) hg (.inl rfl));replace BK148:=A0_ (blk_grown (g:=gb148) (o := .cells #[.slice A0_0 l0_0.length c0_0,.slice (some ad156) l0_1.length c0_1] 25 (0,0)) (zK_ BK148) hg (Kd.R_ne HO_3.out BK148.out (by decide)));replace HO_3:=A0_ (hp_);replace HB:=A0_ ((by rw [hw];exact bS (HB.out) GB18.out:Below w.heap.size w w26));clear hg hw hp_))
    go_roundg k1
    case measure=>have:=HK1.out;omega
    case rel=>exact⟨(y158),(wrap64 (x13_1+1)),zt,H',⟨by have:=HK1.out;omega⟩,⟨zR_ HO_3⟩,⟨zmR HO_11 (fun _ hk=>hk.2)⟩,⟨zK_ BK148⟩,⟨zB_ HB⟩⟩
   rw [if_neg c12] at H;have c12b0:=dF c12;clear c12;obtain rfl:=sI H
   go_wp2
   go_ret
   exact⟨_,by first|rfl|(simp [*] <;> rfl),zmR HO_3 (fun _ hk=>trivial),zB_ HB⟩

/-! ### impl_along: function 62 -/
def impl_along.f (k:Nat) (l0_0:List Int) (l0_1:List Int) (l1:List (List Int)) (a2:Int):Option (List Int):=(impl_edgeOf.f k l0_0 l0_1).bind fun t160=>(if 0≤a2 then (if a2<(t160.length:Int) then (if 0≤(rd t160 a2) then (if (rd t160 a2)<(l1.length:Int) then (if a2<(l0_1.length:Int) then (if a2>(rd l0_1 a2) then ((impl_back.f k (rd_L1 l1 (rd t160 a2))).bind fun t166=>(some t166)) else (some (rd_L1 l1 (rd t160 a2)))) else (none)) else (none)) else (none)) else (none)) else (none))
set_option maxHeartbeats 8000000 in
set_option maxRecDepth 100000 in
theorem impl_along.calls (k:Nat) (A0_0:Option Addr) (c0_0:Nat) (l0_0:List Int) (A0_1:Option Addr) (c0_1:Nat) (l0_1:List Int) (P1_:Nat→Prop) (A1:Option Addr) (c1:Nat) (l1:List (List Int)) (a2:Int) (r:List Int) (w:World) (hr0_0:Kd.C (Kd.int .i64) w A0_0 l0_0.length l0_0) (hc0_0:l0_0.length≤c0_0) (hr0_1:Kd.C (Kd.int .i64) w A0_1 l0_1.length l0_1) (hc0_1:l0_1.length≤c0_1) (hs1:Kd.V (Kd.slice 3 (Kd.int .i64)) 23 w w.heap.size (fun k_=>P1_ k_) (.slice A1 l1.length c1) l1) (h:impl_along.f k l0_0 l0_1 l1 a2=some r) :
    Calls Try.prog 62 #[.agg #[.slice A0_0 l0_0.length c0_0,.slice A0_1 l0_1.length c0_1],.slice A1 l1.length c1,.int .i64 a2] w fun e w' => ∃ v0_:Value,e = .returned (v0_)∧Kd.V (Kd.int .i64) 3 w' w.heap.size (fun k_=>(P1_ k_∨w.heap.size≤k_)) v0_ r∧Below w.heap.size w w':=by
 have hu25:=Try.underlying25;have HR0_0:=A0_ hr0_0;have HC0_0:=A0_ hc0_0;clear hr0_0 hc0_0;have HR0_1:=A0_ hr0_1;have HC0_1:=A0_ hc0_1;clear hr0_1 hc0_1
 have HO1:=A0_ (show Kd.V (Kd.slice 3 (Kd.int .i64)) 23 w w.heap.size (fun k_=>(P1_ k_∨w.heap.size≤k_)) (.slice A1 l1.length c1) l1 from Kd.V_mono hs1 (fun k_ hk => .inl hk))
 have HB:=A0_ (Below.refl w.heap.size w)
 have H:((impl_edgeOf.f k l0_0 l0_1).bind fun t160=>(if 0≤a2 then (if a2<(t160.length:Int) then (if 0≤(rd t160 a2) then (if (rd t160 a2)<(l1.length:Int) then (if a2<(l0_1.length:Int) then (if a2>(rd l0_1 a2) then ((impl_back.f k (rd_L1 l1 (rd t160 a2))).bind fun t166=>(some t166)) else (some (rd_L1 l1 (rd t160 a2)))) else (none)) else (none)) else (none)) else (none)) else (none)))=some r:=h
 clear h;obtain⟨t160,A4,H⟩:=zbind H
 have c5:=zpc H;replace H:=zph H
 have c5b0:=dT c5;clear c5
 have c6:=zpc H;replace H:=zph H
 have c6b0:=dT c6;clear c6
 have c7:=zpc H;replace H:=zph H
 have c7b0:=dT c7;clear c7
 have c8:=zpc H;replace H:=zph H
 have c8b0:=dT c8;clear c8
 have c9:=zpc H;replace H:=zph H
 have c9b0:=dT c9;clear c9
 by_cases c10:a2>(rd l0_1 a2)
 ·rw [if_pos c10] at H
  have c10b0:decide ((rd l0_1 a2)<a2)=true:=dT c10
  clear c10;obtain⟨t166,A11,H⟩:=zbind H;obtain rfl:=sI H
  go_enter Try.func62,Try.ntmps62
  go_wp2_with (first|((with_reducible refine gD (N:=3) rfl ?_);refine zX (N:=3) (cs := #[.slice A0_0 l0_0.length c0_0,.slice A0_1 l0_1.length c0_1]) (t:=25) ?_;intro gb159 hg w12 hbox hb;replace HO1:=A0_ (Kd.V_below (Kd.V_elderB (by(with_reducible repeat(first|apply Kd.V_alloc|apply Kd.V_drewN|apply Kd.V_drew));exact HO1.out) gb159 (Nat.le_of_eq hg.symm)) hb);have BK159:=A0_ (hbox);have GW159:=zG hg HB;have GE159:=zG hg HB;replace HB:=zB HB hb;clear hb hbox hg;have hcz13_0:=zc0 BK159;have hcz13_1:=zc1 BK159;have hfz13_0:=kF BK159.out 0;have hfz13_1:=kF BK159.out 1)|((with_reducible refine gC (f:=104) rfl ?_);refine zJ (some 10) Try.func104 #[.agg #[.slice A0_0 l0_0.length c0_0,.slice A0_1 l0_1.length c0_1]] ?_;(with_reducible refine(impl_edgeOf.calls k _ _ l0_0 _ _ l0_1 t160 _ ?side1 ?side2 ?side3 ?side4 A4.out).mono ?_);(case side1=>exact zC HR0_0 HB);(case side2=>exact HC0_0.out);(case side3=>exact zC HR0_1 HB);(case side4=>exact HC0_1.out);rintro e w14 ⟨v161,rfl,ho0,hb⟩;refine⟨_,rfl,?_⟩;replace HO1:=A0_ (Kd.V_elder' (by(with_reducible repeat(first|apply Kd.V_alloc|apply Kd.V_drewN|apply Kd.V_drew));exact HO1.out) (Kd.R_base ho0) hb);have HO162:=A0_ (rL (Kd.R_newM (M:=fun k_=>(w.heap.size≤k_)) ho0 (bZ (zB_ HB)) (fun k_ h_=>h_)) (bZ (zB_ HB)));replace BK159:=zK BK159 hb;replace HB:=zB HB hb;(try clear hb);(try clear ho0);obtain⟨Ao15,co15,eo15⟩:=rS HO162.out;subst eo15;have p163:0≤(a2:Int):=zd;have q163:a2<(t160.length:Int):=zd;obtain⟨ad163,e163,hx163_0⟩:=tI (rR HO162.out).2.2 a2 p163 q163;cases e163;replace p163:=eq_true p163;replace q163:=eq_true q163;have p164:0≤((rd t160 a2):Int):=zd;have q164:(rd t160 a2)<(l1.length:Int):=zd;obtain⟨ad164,A164_0,c164_0,e164,hx164_0,hl164_0,hi164_0⟩:=at_L1 (Kd.V_reads' HO1.out).2.2 (rd t160 a2) p164 q164;cases e164;obtain⟨ce164,hce164,hMe164,hcc164⟩:=Kd.V_get HO1.out [] (rd t160 a2) p164 (by first|exact q164|exact zd|(have e_:=(Kd.V_reads' HO1.out).1;omega));obtain⟨ua164_0,uc164_0,rfl,ul164_0,ge164_0⟩:=Kd.FK_slice_open hMe164;have hv164_0:=hcc164 0 _ rfl;rw [Nat.add_zero,show((Kd.slice 3 (Kd.int .i64))).sz=1 from rfl,Nat.mul_one] at hv164_0;replace hv164_0:=sI (hv164_0.symm.trans hx164_0);injection hv164_0 with hva_ hvn_ hvc_;rw [hva_] at ge164_0;rw [hvc_] at ul164_0;have HL164_0:=A0_ (show Kd.V (Kd.int .i64) 3 _ w.heap.size _ _ (rd_L1 l1 (rd t160 a2)) from Kd.V_mk ul164_0 ge164_0);clear hva_ hvn_ hvc_ ge164_0 ul164_0 hcc164 hce164;have HR164_0:=A0_ hi164_0;have HC164_0:=A0_ hl164_0;clear hi164_0 hl164_0;replace p164:=eq_true p164;replace q164:=eq_true q164;have hcz16_0:=zc0 BK159;have hcz16_1:=zc1 BK159;have hfz16_0:=kF BK159.out 0;have hfz16_1:=kF BK159.out 1;have p165:0≤(a2:Int):=zd;have q165:a2<(l0_1.length:Int):=zd;obtain⟨ad165,e165,hx165_0⟩:=tI HR0_1.out a2 p165 q165;cases e165;try replace hx165_0:=(HB.out.cell (wL w _ hx165_0)).trans hx165_0;replace p165:=eq_true p165;replace q165:=eq_true q165)|((with_reducible refine gC (f:=60) rfl ?_);refine zJ (some 24) Try.func60 #[.slice A164_0 (rd_L1 l1 (rd t160 a2)).length c164_0] ?_;(with_reducible refine(impl_back.calls k _ _ (rd_L1 l1 (rd t160 a2)) t166 _ ?side1 ?side2 A11.out).mono ?_);(case side1=>repeat(first|exact(by repeat(first|(with_reducible exact HR164_0.out)|(with_reducible refine cA ?_ _)|(with_reducible refine cN ?_ _)|(with_reducible refine cD ?_)|exact HR164_0.out))|(with_reducible refine cA ?_ _)|(with_reducible refine cN ?_ _)|(with_reducible refine cD ?_)));(case side2=>exact HC164_0.out);rintro e w17 ⟨v167,rfl,ho0,hb⟩;refine⟨_,rfl,?_⟩;replace HO1:=A0_ (Kd.V_elder' (by(with_reducible repeat(first|apply Kd.V_alloc|apply Kd.V_drewN|apply Kd.V_drew));exact HO1.out) (Kd.R_base ho0) hb);replace HL164_0:=A0_ (Kd.V_elder' (by(with_reducible repeat(first|apply Kd.V_alloc|apply Kd.V_drewN|apply Kd.V_drew));exact HL164_0.out) (Kd.R_base ho0) hb);have HO168:=A0_ (rL (Kd.R_new' (Kd.R_newM (M:=fun k_=>(w.heap.size≤k_)) ho0 (bZ (zB_ HB)) (fun k_ h_=>h_)) (rX (zR_ HO162))) (bZ (zB_ HB)));replace HO162:=A0_ (Kd.R_elder' (zR_ HO162) (Kd.R_base ho0) hb);replace BK159:=zK BK159 hb;replace HR164_0:=A0_ (cB (by repeat(first|(with_reducible exact HR164_0.out)|(with_reducible refine cA ?_ _)|(with_reducible refine cN ?_ _)|(with_reducible refine cD ?_)|exact HR164_0.out)) hb);replace HB:=zB HB hb;(try clear hb);(try clear ho0)))
  go_ret
  exact⟨_,by first|rfl|(simp [*] <;> rfl),Kd.V_mono (Kd.R_V (zmR HO168 (fun _ hk=>hk.1.1))) (fun k_ hk=>by first|exact⟨(.inr (hk.1)),hk.2⟩|exact(.inr (hk))),zB_ HB⟩
 rw [if_neg c10] at H
 have c10b0:decide ((rd l0_1 a2)<a2)=false:=dF c10
 clear c10;obtain rfl:=sI H
 go_enter Try.func62,Try.ntmps62
 go_wp2_with (first|((with_reducible refine gD (N:=3) rfl ?_);refine zX (N:=3) (cs := #[.slice A0_0 l0_0.length c0_0,.slice A0_1 l0_1.length c0_1]) (t:=25) ?_;intro gb159 hg w18 hbox hb;replace HO1:=A0_ (Kd.V_below (Kd.V_elderB (by(with_reducible repeat(first|apply Kd.V_alloc|apply Kd.V_drewN|apply Kd.V_drew));exact HO1.out) gb159 (Nat.le_of_eq hg.symm)) hb);have BK159:=A0_ (hbox);have GW159:=zG hg HB;have GE159:=zG hg HB;replace HB:=zB HB hb;clear hb hbox hg;have hcz19_0:=zc0 BK159;have hcz19_1:=zc1 BK159;have hfz19_0:=kF BK159.out 0;have hfz19_1:=kF BK159.out 1)|((with_reducible refine gC (f:=104) rfl ?_);refine zJ (some 10) Try.func104 #[.agg #[.slice A0_0 l0_0.length c0_0,.slice A0_1 l0_1.length c0_1]] ?_;(with_reducible refine(impl_edgeOf.calls k _ _ l0_0 _ _ l0_1 t160 _ ?side1 ?side2 ?side3 ?side4 A4.out).mono ?_);(case side1=>exact zC HR0_0 HB);(case side2=>exact HC0_0.out);(case side3=>exact zC HR0_1 HB);(case side4=>exact HC0_1.out);rintro e w20 ⟨v161,rfl,ho0,hb⟩;refine⟨_,rfl,?_⟩;replace HO1:=A0_ (Kd.V_elder' (by(with_reducible repeat(first|apply Kd.V_alloc|apply Kd.V_drewN|apply Kd.V_drew));exact HO1.out) (Kd.R_base ho0) hb);have HO162:=A0_ (rL (Kd.R_newM (M:=fun k_=>(w.heap.size≤k_)) ho0 (bZ (zB_ HB)) (fun k_ h_=>h_)) (bZ (zB_ HB)));replace BK159:=zK BK159 hb;replace HB:=zB HB hb;(try clear hb);(try clear ho0);obtain⟨Ao21,co21,eo21⟩:=rS HO162.out;subst eo21;have p163:0≤(a2:Int):=zd;have q163:a2<(t160.length:Int):=zd;obtain⟨ad163,e163,hx163_0⟩:=tI (rR HO162.out).2.2 a2 p163 q163;cases e163;replace p163:=eq_true p163;replace q163:=eq_true q163;have p164:0≤((rd t160 a2):Int):=zd;have q164:(rd t160 a2)<(l1.length:Int):=zd;obtain⟨ad164,A164_0,c164_0,e164,hx164_0,hl164_0,hi164_0⟩:=at_L1 (Kd.V_reads' HO1.out).2.2 (rd t160 a2) p164 q164;cases e164;obtain⟨ce164,hce164,hMe164,hcc164⟩:=Kd.V_get HO1.out [] (rd t160 a2) p164 (by first|exact q164|exact zd|(have e_:=(Kd.V_reads' HO1.out).1;omega));obtain⟨ua164_0,uc164_0,rfl,ul164_0,ge164_0⟩:=Kd.FK_slice_open hMe164;have hv164_0:=hcc164 0 _ rfl;rw [Nat.add_zero,show((Kd.slice 3 (Kd.int .i64))).sz=1 from rfl,Nat.mul_one] at hv164_0;replace hv164_0:=sI (hv164_0.symm.trans hx164_0);injection hv164_0 with hva_ hvn_ hvc_;rw [hva_] at ge164_0;rw [hvc_] at ul164_0;have HL164_0:=A0_ (show Kd.V (Kd.int .i64) 3 _ w.heap.size _ _ (rd_L1 l1 (rd t160 a2)) from Kd.V_mk ul164_0 ge164_0);clear hva_ hvn_ hvc_ ge164_0 ul164_0 hcc164 hce164;have HR164_0:=A0_ hi164_0;have HC164_0:=A0_ hl164_0;clear hi164_0 hl164_0;replace p164:=eq_true p164;replace q164:=eq_true q164;have hcz22_0:=zc0 BK159;have hcz22_1:=zc1 BK159;have hfz22_0:=kF BK159.out 0;have hfz22_1:=kF BK159.out 1;have p165:0≤(a2:Int):=zd;have q165:a2<(l0_1.length:Int):=zd;obtain⟨ad165,e165,hx165_0⟩:=tI HR0_1.out a2 p165 q165;cases e165;try replace hx165_0:=(HB.out.cell (wL w _ hx165_0)).trans hx165_0;replace p165:=eq_true p165;replace q165:=eq_true q165))
 go_ret
 exact⟨_,by first|rfl|(simp [*] <;> rfl),by(with_reducible repeat(first|apply Kd.V_alloc|apply Kd.V_drewN|apply Kd.V_drew));exact Kd.V_mono HL164_0.out (fun _ hk=>hk.1.1),zB_ HB⟩

end Go.Proofs.Ytmegggomhjgehaa.PFnCover
