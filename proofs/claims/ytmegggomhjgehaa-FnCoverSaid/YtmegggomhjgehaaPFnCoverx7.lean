-- Made by a program of this session (wip/tools) out of the loaded program; not trusted: Lean checks it.
import Derived.Test.YtmegggomhjgehaaPFnCoverx0
import Derived.Test.YtmegggomhjgehaaPFnCoverx6
-- packed
-- packed2
namespace Go.Proofs.Ytmegggomhjgehaa.PFnCover
open Go.RowKit Go.Proofs.YtmegggomhjgehaaW.PrintWords Go.Proofs.YtmegggomhjgehaaW.PrintLast Go.Proofs.YtmegggomhjgehaaW.PrintMore
attribute [local go_sem] max2_int min2_int max_two min_two max_three min_three max_four min_four
set_option linter.unusedVariables false
set_option linter.unusedSimpArgs false

/-! ### spec_l1Same: function 79 -/
def spec_l1Same.l0:Nat→Int→List Int→Int→Option (List Int)
  | 0,_,_,_=>none
  | k+1,x0,x3,x4=>if x4<x0 then (if x3.length<17592186044416 then (spec_l1Same.l0 k x0 (x3 ++ [x4]) (wrap64 (x4+1))) else (none)) else (some x3)
def spec_l1Same.f (k:Nat) (a0:Int):Option (List Int):=spec_l1Same.l0 k a0 (([]:List Int)) 0
set_option maxHeartbeats 8000000 in
set_option maxRecDepth 100000 in
theorem spec_l1Same.calls (k:Nat) (a0:Int) (r:List Int) (w:World) (h:spec_l1Same.f k a0=some r) :
    Calls Try.prog 79 #[.int .i64 a0] w fun e w' => ∃ v0_:Value,e = .returned (v0_)∧Kd.R (Kd.int .i64) 3 w' w.heap.size (fun _=>True) v0_ r∧Below w.heap.size w w':=by
 have HB:=A0_ (Below.refl w.heap.size w)
 have H:(spec_l1Same.l0 k a0 (([]:List Int)) 0)=some r:=h
 clear h
 obtain⟨y271,hy271⟩ : ∃ y_:List Int,y_=(([]:List Int)):=⟨_,rfl⟩
 replace H:(spec_l1Same.l0 k a0 y271 0)=some r:=zH hy271 H
 have Ny271:=A0_ hy271;clear hy271;have H':=A0_ H;clear H
 go_enter Try.func79,Try.ntmps79
 go_wp2_with (first|((with_reducible refine gD (N:=5) rfl ?_);refine Kd.R_lit (Kd.int .i64) _ 3 ?hg (N:=5) ?hd (xs:=([]:List Int)) (inner := []) (ok:=fun _=>True) (okp:=fun _=>True) ?hr ?hp (fun _ hk=>hk) trivial (Below.refl _ _) (Nat.le_refl _) (by simp) ?_;(case hd=>rfl);(case hg=>rfl);(case hr=>first|(go_simp;done)|(go_simp;rfl));(case hp=>exact(Reps.none _ _));intro v272 w2 ho3 hb hg_ hnew_;clear hg_ hnew_;(first|rw [← Ny271.out] at ho3|(simp only [Int.reduceToNat] at ho3;rw [← Ny271.out] at ho3));have HO273:=A0_ (rL ho3 (bZ (zB_ HB)));replace HB:=zB HB hb;clear hb ho3))
 go_loopg [3,4] k (fun kq v3 v4 w' => ∃ (x3_1:List Int) (x4_1:Int),v4 = .int .i64 x4_1∧Aside0 (spec_l1Same.l0 kq a0 x3_1 x4_1=some r)∧Aside0 (kq≤k)∧Aside0 (Kd.R (Kd.int .i64) 3 w' w.heap.size (fun _=>True) v3 x3_1)∧Aside0 (Below w.heap.size w w'))
 case atStart=>exact⟨(y271),(0),zt,H',⟨Nat.le_refl _⟩,⟨zR_ HO273⟩,⟨zB_ HB⟩⟩
 case round =>
  clear H';(try clear p2);obtain⟨x3_1,x4_1,rfl,HA,HK1,HO_3,HB⟩:=hrel
  cases gk with
  | zero=>exact absurd HA.out (by simp [spec_l1Same.l0])
  | succ k1 =>
   have H:=HA.out;clear HA;simp only [spec_l1Same.l0] at H
   by_cases c4:x4_1<a0
   ·rw [if_pos c4] at H
    have c4b0:=dT c4;clear c4
    have c5:=zpc H;replace H:=zph H
    have LMc5:=A0_ c5;clear c5
    obtain⟨y274,hy274⟩ : ∃ y_:List Int,y_=(x3_1 ++ [x4_1]):=⟨_,rfl⟩
    replace H:(spec_l1Same.l0 k1 a0 y274 (wrap64 (x4_1+1)))=some r:=zH hy274 H
    have Ny274:=A0_ hy274;clear hy274;have H':=A0_ H;clear H
    go_wp2_with (first|((with_reducible refine gB (b := .append) (xs := #[.tmp 11,.tmp 13]) rfl ?_);at_builtin;refine Kd.R_append (Kd.int .i64) (w0:=w) w.heap.size rfl (.tmp 11) (.tmp 13) 23 3 (.int .i64 0) 8 rfl Try.underlying23 info3 rfl (by decide) (by omega) u3 x3_1 x4_1 [.int .i64 x4_1] (fun _=>True) (fun _=>False) rfl rfl ?aP (fun _ hk=>hk.elim) ?aF ?aO ?aB ?aS ?aL ?_;(case aP=>exact rfl);(case aB=>exact(zB_ HB));(case aF=>exact(fun _ _=>trivial));(case aO=>exact(zR_ HO_3));(case aS=>exact(bZ (zB_ HB)));(case aL=>have:=LMc5.out;omega);intro v275 w6 ho hb hg hat;rw [← Ny274.out] at ho;replace HB:=A0_ (hb);have HO276:=A0_ (ho);clear HO_3 ho hb hg hat))
    go_roundg k1
    case measure=>have:=HK1.out;omega
    case rel=>exact⟨(y274),(wrap64 (x4_1+1)),zt,H',⟨by have:=HK1.out;omega⟩,⟨zR_ HO276⟩,⟨zB_ HB⟩⟩
   rw [if_neg c4] at H;have c4b0:=dF c4;clear c4;obtain rfl:=sI H
   go_wp2
   go_ret
   exact⟨_,by first|rfl|(simp [*] <;> rfl),zR_ HO_3,zB_ HB⟩

/-! ### spec_l1Orbits: function 103 -/
mutual
def spec_l1Orbits.l0:Nat→List Int→List Int→List Int→Int→Option (List Int)
  | 0,_,_,_,_=>none
  | k+1,x0,x1,x5,x6=>if x6<(x0.length:Int) then (spec_l1Orbits.l1 k x0 x1 x5 x6 0) else (some x5)
def spec_l1Orbits.l1:Nat→List Int→List Int→List Int→Int→Int→Option (List Int)
  | 0,_,_,_,_,_=>none
  | k+1,x0,x1,x5,x6,x7=>if x7<(x0.length:Int) then (if 0≤x7 then (if x7<(x5.length:Int) then (if 0≤(rd x0 x7) then (if (rd x0 x7)<(x5.length:Int) then (if x7<(x1.length:Int) then (if 0≤(rd x1 x7) then (if (rd x1 x7)<(x5.length:Int) then (spec_l1Orbits.l1 k x0 x1 (((x5.set (x7:Int).toNat (mn (rd x5 x7) (mn (rd x5 (rd x0 x7)) (rd x5 (rd x1 x7))))).set ((rd x0 x7):Int).toNat (mn (rd x5 x7) (mn (rd x5 (rd x0 x7)) (rd x5 (rd x1 x7))))).set ((rd x1 x7):Int).toNat (mn (rd x5 x7) (mn (rd x5 (rd x0 x7)) (rd x5 (rd x1 x7))))) x6 (wrap64 (x7+1))) else (none)) else (none)) else (none)) else (none)) else (none)) else (none)) else (none)) else (spec_l1Orbits.l0 k x0 x1 x5 (wrap64 (x6+1)))
end
def spec_l1Orbits.f (k:Nat) (l0:List Int) (l1:List Int):Option (List Int):=(spec_l1Same.f k (l0.length:Int)).bind fun t277=>(spec_l1Orbits.l0 k l0 l1 t277 0)
set_option maxHeartbeats 8000000 in
set_option maxRecDepth 100000 in
theorem spec_l1Orbits.calls (k:Nat) (A0:Option Addr) (c0:Nat) (l0:List Int) (A1:Option Addr) (c1:Nat) (l1:List Int) (r:List Int) (w:World) (hr0:Kd.C (Kd.int .i64) w A0 l0.length l0) (hc0:l0.length≤c0) (hr1:Kd.C (Kd.int .i64) w A1 l1.length l1) (hc1:l1.length≤c1) (h:spec_l1Orbits.f k l0 l1=some r) :
    Calls Try.prog 103 #[.slice A0 l0.length c0,.slice A1 l1.length c1] w fun e w' => ∃ v0_:Value,e = .returned (v0_)∧Kd.R (Kd.int .i64) 3 w' w.heap.size (fun _=>True) v0_ r∧Below w.heap.size w w':=by
 have HR0:=A0_ hr0;have HC0:=A0_ hc0;clear hr0 hc0;have HR1:=A0_ hr1;have HC1:=A0_ hc1;clear hr1 hc1
 have HB:=A0_ (Below.refl w.heap.size w)
 have H:((spec_l1Same.f k (l0.length:Int)).bind fun t277=>(spec_l1Orbits.l0 k l0 l1 t277 0))=some r:=h
 clear h;obtain⟨t277,A3,H⟩:=zbind H;have H':=A0_ H;clear H
 go_enter Try.func103,Try.ntmps103
 go_wp2_with (first|(go_at_call 79;(with_reducible refine(spec_l1Same.calls k (l0.length:Int) t277 _ A3.out).mono ?_);rintro e w4 ⟨v278,rfl,ho0,hb⟩;have HO279:=A0_ (rL ho0 (bZ (zB_ HB)));replace HB:=zB HB hb;(try clear hb);(try clear ho0)))
 repeat(go_quiet (first|(go_at_call 79;(with_reducible refine(spec_l1Same.calls k (l0.length:Int) t277 _ A3.out).mono ?_);rintro e w4 ⟨v278,rfl,ho0,hb⟩;have HO279:=A0_ (rL ho0 (bZ (zB_ HB)));replace HB:=zB HB hb;(try clear hb);(try clear ho0)));try go_wp2_with (first|(go_at_call 79;(with_reducible refine(spec_l1Same.calls k (l0.length:Int) t277 _ A3.out).mono ?_);rintro e w4 ⟨v278,rfl,ho0,hb⟩;have n0_:=A0_ (rL ho0 (bZ (zB_ HB)));have n1_:=zB HB hb;clear HB;have HO279:=n0_;have HB:=n1_;clear n0_ n1_;(try clear hb);(try clear hb2);(try clear hk);(try clear hi);(try clear ho0))))
 go_loopg [6] k (fun kq v6 w' => ∃ (x5_1:List Int) (x6_1:Int),v6 = .int .i64 x6_1∧Aside0 (spec_l1Orbits.l0 kq l0 l1 x5_1 x6_1=some r)∧Aside0 (kq≤k)∧Aside0 (Kd.R (Kd.int .i64) 3 w' w.heap.size (fun _=>True) v278 x5_1)∧Aside0 (Below w.heap.size w w'))
 case atStart=>exact⟨(t277),(0),zt,H',⟨Nat.le_refl _⟩,⟨zR_ HO279⟩,⟨zB_ HB⟩⟩
 case round =>
  clear H';(try clear c1);(try clear p2);obtain⟨x5_1,x6_1,rfl,HA,HK1,HO_5,HB⟩:=hrel
  cases gk with
  | zero=>exact absurd HA.out (by simp [spec_l1Orbits.l0])
  | succ k1 =>
   have H:=HA.out;clear HA;simp only [spec_l1Orbits.l0] at H
   by_cases c5:x6_1<(l0.length:Int)
   ·rw [if_pos c5] at H
    have c5b0:=dT c5;clear c5;have H':=A0_ H;clear H
    go_wp2
    repeat(go_quiet (fail);try go_wp2)
    go_loopg [7] k1 (fun kq v7 w' => ∃ (x5_2:List Int) (x7_2:Int),v7 = .int .i64 x7_2∧Aside0 (spec_l1Orbits.l1 kq l0 l1 x5_2 x6_1 x7_2=some r)∧Aside0 (kq≤k1)∧Aside0 (Kd.R (Kd.int .i64) 3 w' w.heap.size (fun _=>True) v278 x5_2)∧Aside0 (Below w.heap.size w w'))
    case atStart=>exact⟨(x5_1),(0),zt,H',⟨Nat.le_refl _⟩,⟨zR_ HO_5⟩,⟨zB_ HB⟩⟩
    case round =>
     clear H';(try clear c1);(try clear p2);(try clear c5);(try clear c5b0);(try clear p2);obtain⟨x5_2,x7_2,rfl,HA,HK2,HO_5,HB⟩:=hrel
     cases gk with
     | zero=>exact absurd HA.out (by simp [spec_l1Orbits.l1])
     | succ k2 =>
      have H:=HA.out;clear HA;simp only [spec_l1Orbits.l1] at H
      by_cases c6:x7_2<(l0.length:Int)
      ·rw [if_pos c6] at H
       have c6b0:=dT c6;clear c6
       have c7:=zpc H;replace H:=zph H
       have c7b0:=dT c7;clear c7
       have c8:=zpc H;replace H:=zph H
       have c8b0:=dT c8;clear c8
       have c9:=zpc H;replace H:=zph H
       have c9b0:=dT c9;clear c9
       have c10:=zpc H;replace H:=zph H
       have c10b0:=dT c10;clear c10
       have c11:=zpc H;replace H:=zph H
       have c11b0:=dT c11;clear c11
       have c12:=zpc H;replace H:=zph H
       have c12b0:=dT c12;clear c12
       have c13:=zpc H;replace H:=zph H
       have c13b0:=dT c13;clear c13
       obtain⟨ji14,hji14⟩ : ∃ j_:Int,(mn (rd x5_2 (rd l0 x7_2)) (rd x5_2 (rd l1 x7_2)))=j_:=⟨_,rfl⟩
       replace H:(spec_l1Orbits.l1 k2 l0 l1 (((x5_2.set (x7_2:Int).toNat (mn (rd x5_2 x7_2) (ji14))).set ((rd l0 x7_2):Int).toNat (mn (rd x5_2 x7_2) (ji14))).set ((rd l1 x7_2):Int).toNat (mn (rd x5_2 x7_2) (ji14))) x6_1 (wrap64 (x7_2+1)))=some r:=by first|(rw [hji14] at H;exact H)|(simp only [hji14] at H ⊢;exact H)
       have hji14_:(if (rd x5_2 (rd l1 x7_2))<(rd x5_2 (rd l0 x7_2)) then (rd x5_2 (rd l1 x7_2)) else (rd x5_2 (rd l0 x7_2)))=ji14:=hji14
       obtain⟨ji15,hji15⟩ : ∃ j_:Int,(mn (rd x5_2 x7_2) (ji14))=j_:=⟨_,rfl⟩
       replace H:(spec_l1Orbits.l1 k2 l0 l1 (((x5_2.set (x7_2:Int).toNat (ji15)).set ((rd l0 x7_2):Int).toNat (ji15)).set ((rd l1 x7_2):Int).toNat (ji15)) x6_1 (wrap64 (x7_2+1)))=some r:=by first|(rw [hji15] at H;exact H)|(simp only [hji15] at H ⊢;exact H)
       have hji15_:(if (ji14)<(rd x5_2 x7_2) then (ji14) else (rd x5_2 x7_2))=ji15:=hji15
       obtain⟨y285,hy285⟩ : ∃ y_:List Int,y_=(x5_2.set (x7_2:Int).toNat (ji15)):=⟨_,rfl⟩
       replace H:(spec_l1Orbits.l1 k2 l0 l1 ((y285.set ((rd l0 x7_2):Int).toNat (ji15)).set ((rd l1 x7_2):Int).toNat (ji15)) x6_1 (wrap64 (x7_2+1)))=some r:=zH hy285 H
       have Ny285:=A0_ hy285;clear hy285
       obtain⟨y287,hy287⟩ : ∃ y_:List Int,y_=(y285.set ((rd l0 x7_2):Int).toNat (ji15)):=⟨_,rfl⟩
       replace H:(spec_l1Orbits.l1 k2 l0 l1 (y287.set ((rd l1 x7_2):Int).toNat (ji15)) x6_1 (wrap64 (x7_2+1)))=some r:=zH hy287 H
       have Ny287:=A0_ hy287;clear hy287
       obtain⟨y289,hy289⟩ : ∃ y_:List Int,y_=(y287.set ((rd l1 x7_2):Int).toNat (ji15)):=⟨_,rfl⟩
       replace H:(spec_l1Orbits.l1 k2 l0 l1 y289 x6_1 (wrap64 (x7_2+1)))=some r:=zH hy289 H
       have Ny289:=A0_ hy289;clear hy289;have H':=A0_ H;clear H;obtain⟨Ao19,co19,eo19⟩:=rS HO_5.out;subst eo19
       have p280:0≤(x7_2:Int):=zd
       have q280:x7_2<(x5_2.length:Int):=zd
       obtain⟨ad280,e280,hx280_0⟩:=tI (rR HO_5.out).2.2 x7_2 p280 q280
       cases e280
       replace p280:=eq_true p280;replace q280:=eq_true q280
       have p281:0≤(x7_2:Int):=zd
       have q281:x7_2<(l0.length:Int):=zd
       obtain⟨ad281,e281,hx281_0⟩:=tI HR0.out x7_2 p281 q281
       cases e281
       try replace hx281_0:=(HB.out.cell (wL w _ hx281_0)).trans hx281_0
       replace p281:=eq_true p281;replace q281:=eq_true q281
       have p282:0≤((rd l0 x7_2):Int):=zd
       have q282:(rd l0 x7_2)<(x5_2.length:Int):=zd
       obtain⟨ad282,e282,hx282_0⟩:=tI (rR HO_5.out).2.2 (rd l0 x7_2) p282 q282
       obtain rfl:ad280=ad282:=(by injection e282)
       replace p282:=eq_true p282;replace q282:=eq_true q282
       have p283:0≤(x7_2:Int):=zd
       have q283:x7_2<(l1.length:Int):=zd
       obtain⟨ad283,e283,hx283_0⟩:=tI HR1.out x7_2 p283 q283
       cases e283
       try replace hx283_0:=(HB.out.cell (wL w _ hx283_0)).trans hx283_0
       replace p283:=eq_true p283;replace q283:=eq_true q283
       have p284:0≤((rd l1 x7_2):Int):=zd
       have q284:(rd l1 x7_2)<(x5_2.length:Int):=zd
       obtain⟨ad284,e284,hx284_0⟩:=tI (rR HO_5.out).2.2 (rd l1 x7_2) p284 q284
       obtain rfl:ad280=ad284:=(by injection e284)
       replace p284:=eq_true p284;replace q284:=eq_true q284
       have p16:0≤(x7_2:Int):=zd
       have q16:(x7_2:Int)<((x5_2.length:Int):Int):=zd
       obtain⟨go16,co16,eo16,gb16,gl16,cl16,HG16⟩:=Kd.R_form HO_5.out (by omega)
       (first|cases eo16|(injection eo16 with ea_ en_ ec_;(first|subst ea_|(injection ea_ with ea_;subst ea_));subst ec_;clear en_))
       have GB16:=A0_ gb16;have GG16:=A0_ HG16;clear gb16 gl16 HG16
       (first|simp only [add_plain] at hx280_0|skip)
       (first|simp only [add_plain] at hx282_0|skip)
       (first|simp only [add_plain] at hx284_0|skip)
       obtain⟨hx16_0,hf16_0⟩:=Kd.R_celln 0 HO_5.out (x7_2:Int) p16 q16
       replace p16:=eq_true p16;replace q16:=eq_true q16
       have HP20:=Kd.R_putg HO_5.out (x7_2:Int) ji15
       go_wp2_with (first|((with_reducible refine gS (t:=3) (p:=47) rfl ?_);(try(rw [drewN_self wr];generalize hq_:World.drewN wr _=wr;have n0_:=A0_ (Kd.R_at hq_ HO_5.out);have n1_:=A0_ (below_at hq_ HB.out);clear hq_ HO_5 HB;have HO_5:=n0_;have HB:=n1_;clear n0_ n1_;(try(obtain⟨hx16_0,hf16_0⟩:=Kd.R_celln 0 HO_5.out (x7_2:Int) (of_eq_true p16) (of_eq_true q16)));(try(have HP20:=Kd.R_putg HO_5.out (x7_2:Int) ji15))));refine store_event (t:=3) (p:=47) (v := ?vo_w21) (w1:=(wr.setCell ⟨go16,(x7_2:Int).toNat,none⟩ (.int .i64 ji15))) ?hg ?ho ?hn ?hr ?_;(case ho=>rfl);(case hg=>rfl);(case hn=>rfl);(case hr=>first|(go_simp;done)|(go_simp;rfl)|(go_simp;congr 2;rw [← hji14];unfold mn;omega)|(go_simp;congr 2;rw [← hji15];unfold mn;omega));intro w21 hw;have hg:wr.grownBy w21 (some go16):=(by rw [hw];exact HP20.2);have hp_:Kd.R (Kd.int .i64) 3 w21 w.heap.size (fun _=>True) (.slice (some ⟨go16,0,none⟩) x5_2.length co19) y285:=(by rw [hw,Ny285.out];exact HP20.1);clear HP20;replace HO_5:=A0_ (hp_);replace HB:=A0_ ((by rw [hw];exact bS (HB.out) GB16.out:Below w.heap.size w w21));clear hg hw hp_;have p286:0≤(x7_2:Int):=zd;have q286:x7_2<(l0.length:Int):=zd;obtain⟨ad286,e286,hx286_0⟩:=tI HR0.out x7_2 p286 q286;obtain rfl:ad281=ad286:=(by injection e286);try replace hx286_0:=(HB.out.cell (wL w _ hx286_0)).trans hx286_0;replace p286:=eq_true p286;replace q286:=eq_true q286;have p17:0≤((rd l0 x7_2):Int):=zd;have q17:((rd l0 x7_2):Int)<((x5_2.length:Int):Int):=zd;obtain⟨hx17_0,hf17_0⟩:=Kd.R_celln 0 HO_5.out ((rd l0 x7_2):Int) p17 q17;replace p17:=eq_true p17;replace q17:=eq_true q17;obtain⟨hy22_,hz22_⟩:=Kd.R_celln 0 HO_5.out ((rd l0 x7_2):Int) (zd) (zd);have HP22:=Kd.R_putg HO_5.out ((rd l0 x7_2):Int) ji15)|((with_reducible refine gS (t:=3) (p:=54) rfl ?_);(try(rw [drewN_self w21];generalize hq_:World.drewN w21 _=w21;have n0_:=A0_ (Kd.R_at hq_ HO_5.out);have n1_:=A0_ (below_at hq_ HB.out);clear hq_ HO_5 HB;have HO_5:=n0_;have HB:=n1_;clear n0_ n1_;(try(obtain⟨hx16_0,hf16_0⟩:=Kd.R_celln 0 HO_5.out (x7_2:Int) (of_eq_true p16) (of_eq_true q16)));(try(obtain⟨hy22_,hz22_⟩:=Kd.R_celln 0 HO_5.out ((rd l0 x7_2):Int) (zd) (zd)));(try(have HP22:=Kd.R_putg HO_5.out ((rd l0 x7_2):Int) ji15))));refine store_event (t:=3) (p:=54) (v := ?vo_w23) (w1:=(w21.setCell ⟨go16,((rd l0 x7_2):Int).toNat,none⟩ (.int .i64 ji15))) ?hg ?ho ?hn ?hr ?_;(case ho=>rfl);(case hg=>rfl);(case hn=>rfl);(case hr=>first|(go_simp;done)|(go_simp;rfl)|(go_simp;congr 2;rw [← hji14];unfold mn;omega)|(go_simp;congr 2;rw [← hji15];unfold mn;omega));intro w23 hw;have hg:w21.grownBy w23 (some go16):=(by rw [hw];exact HP22.2);have hp_:Kd.R (Kd.int .i64) 3 w23 w.heap.size (fun _=>True) (.slice (some ⟨go16,0,none⟩) x5_2.length co19) y287:=(by rw [hw,Ny287.out];exact HP22.1);clear HP22;replace HO_5:=A0_ (hp_);replace HB:=A0_ ((by rw [hw];exact bS (HB.out) GB16.out:Below w.heap.size w w23));clear hg hw hp_;have p288:0≤(x7_2:Int):=zd;have q288:x7_2<(l1.length:Int):=zd;obtain⟨ad288,e288,hx288_0⟩:=tI HR1.out x7_2 p288 q288;obtain rfl:ad283=ad288:=(by injection e288);try replace hx288_0:=(HB.out.cell (wL w _ hx288_0)).trans hx288_0;replace p288:=eq_true p288;replace q288:=eq_true q288;have p18:0≤((rd l1 x7_2):Int):=zd;have q18:((rd l1 x7_2):Int)<((x5_2.length:Int):Int):=zd;obtain⟨hx18_0,hf18_0⟩:=Kd.R_celln 0 HO_5.out ((rd l1 x7_2):Int) p18 q18;replace p18:=eq_true p18;replace q18:=eq_true q18;obtain⟨hy24_,hz24_⟩:=Kd.R_celln 0 HO_5.out ((rd l1 x7_2):Int) (zd) (zd);have HP24:=Kd.R_putg HO_5.out ((rd l1 x7_2):Int) ji15)|((with_reducible refine gS (t:=3) (p:=61) rfl ?_);(try(rw [drewN_self w23];generalize hq_:World.drewN w23 _=w23;have n0_:=A0_ (Kd.R_at hq_ HO_5.out);have n1_:=A0_ (below_at hq_ HB.out);clear hq_ HO_5 HB;have HO_5:=n0_;have HB:=n1_;clear n0_ n1_;(try(obtain⟨hx16_0,hf16_0⟩:=Kd.R_celln 0 HO_5.out (x7_2:Int) (of_eq_true p16) (of_eq_true q16)));(try(obtain⟨hy24_,hz24_⟩:=Kd.R_celln 0 HO_5.out ((rd l1 x7_2):Int) (zd) (zd)));(try(have HP24:=Kd.R_putg HO_5.out ((rd l1 x7_2):Int) ji15))));refine store_event (t:=3) (p:=61) (v := ?vo_w25) (w1:=(w23.setCell ⟨go16,((rd l1 x7_2):Int).toNat,none⟩ (.int .i64 ji15))) ?hg ?ho ?hn ?hr ?_;(case ho=>rfl);(case hg=>rfl);(case hn=>rfl);(case hr=>first|(go_simp;done)|(go_simp;rfl)|(go_simp;congr 2;rw [← hji14];unfold mn;omega)|(go_simp;congr 2;rw [← hji15];unfold mn;omega));intro w25 hw;have hg:w23.grownBy w25 (some go16):=(by rw [hw];exact HP24.2);have hp_:Kd.R (Kd.int .i64) 3 w25 w.heap.size (fun _=>True) (.slice (some ⟨go16,0,none⟩) x5_2.length co19) y289:=(by rw [hw,Ny289.out];exact HP24.1);clear HP24;replace HO_5:=A0_ (hp_);replace HB:=A0_ ((by rw [hw];exact bS (HB.out) GB16.out:Below w.heap.size w w25));clear hg hw hp_))
       repeat(go_quiet (first|((with_reducible refine gS (t:=3) (p:=47) rfl ?_);(try(rw [drewN_self wr];generalize hq_:World.drewN wr _=wr;have n0_:=A0_ (Kd.R_at hq_ HO_5.out);have n1_:=A0_ (below_at hq_ HB.out);clear hq_ HO_5 HB;have HO_5:=n0_;have HB:=n1_;clear n0_ n1_;(try(obtain⟨hx16_0,hf16_0⟩:=Kd.R_celln 0 HO_5.out (x7_2:Int) (of_eq_true p16) (of_eq_true q16)));(try(have HP20:=Kd.R_putg HO_5.out (x7_2:Int) ji15))));refine store_event (t:=3) (p:=47) (v := ?vo_w21) (w1:=(wr.setCell ⟨go16,(x7_2:Int).toNat,none⟩ (.int .i64 ji15))) ?hg ?ho ?hn ?hr ?_;(case ho=>rfl);(case hg=>rfl);(case hn=>rfl);(case hr=>first|(go_simp;done)|(go_simp;rfl)|(go_simp;congr 2;rw [← hji14];unfold mn;omega)|(go_simp;congr 2;rw [← hji15];unfold mn;omega));intro w21 hw;have hg:wr.grownBy w21 (some go16):=(by rw [hw];exact HP20.2);have hp_:Kd.R (Kd.int .i64) 3 w21 w.heap.size (fun _=>True) (.slice (some ⟨go16,0,none⟩) x5_2.length co19) y285:=(by rw [hw,Ny285.out];exact HP20.1);clear HP20;replace HO_5:=A0_ (hp_);replace HB:=A0_ ((by rw [hw];exact bS (HB.out) GB16.out:Below w.heap.size w w21));clear hg hw hp_;have p286:0≤(x7_2:Int):=zd;have q286:x7_2<(l0.length:Int):=zd;obtain⟨ad286,e286,hx286_0⟩:=tI HR0.out x7_2 p286 q286;obtain rfl:ad281=ad286:=(by injection e286);try replace hx286_0:=(HB.out.cell (wL w _ hx286_0)).trans hx286_0;replace p286:=eq_true p286;replace q286:=eq_true q286;have p17:0≤((rd l0 x7_2):Int):=zd;have q17:((rd l0 x7_2):Int)<((x5_2.length:Int):Int):=zd;obtain⟨hx17_0,hf17_0⟩:=Kd.R_celln 0 HO_5.out ((rd l0 x7_2):Int) p17 q17;replace p17:=eq_true p17;replace q17:=eq_true q17;obtain⟨hy22_,hz22_⟩:=Kd.R_celln 0 HO_5.out ((rd l0 x7_2):Int) (zd) (zd);have HP22:=Kd.R_putg HO_5.out ((rd l0 x7_2):Int) ji15)|((with_reducible refine gS (t:=3) (p:=54) rfl ?_);(try(rw [drewN_self w21];generalize hq_:World.drewN w21 _=w21;have n0_:=A0_ (Kd.R_at hq_ HO_5.out);have n1_:=A0_ (below_at hq_ HB.out);clear hq_ HO_5 HB;have HO_5:=n0_;have HB:=n1_;clear n0_ n1_;(try(obtain⟨hx16_0,hf16_0⟩:=Kd.R_celln 0 HO_5.out (x7_2:Int) (of_eq_true p16) (of_eq_true q16)));(try(obtain⟨hy22_,hz22_⟩:=Kd.R_celln 0 HO_5.out ((rd l0 x7_2):Int) (zd) (zd)));(try(have HP22:=Kd.R_putg HO_5.out ((rd l0 x7_2):Int) ji15))));refine store_event (t:=3) (p:=54) (v := ?vo_w23) (w1:=(w21.setCell ⟨go16,((rd l0 x7_2):Int).toNat,none⟩ (.int .i64 ji15))) ?hg ?ho ?hn ?hr ?_;(case ho=>rfl);(case hg=>rfl);(case hn=>rfl);(case hr=>first|(go_simp;done)|(go_simp;rfl)|(go_simp;congr 2;rw [← hji14];unfold mn;omega)|(go_simp;congr 2;rw [← hji15];unfold mn;omega));intro w23 hw;have hg:w21.grownBy w23 (some go16):=(by rw [hw];exact HP22.2);have hp_:Kd.R (Kd.int .i64) 3 w23 w.heap.size (fun _=>True) (.slice (some ⟨go16,0,none⟩) x5_2.length co19) y287:=(by rw [hw,Ny287.out];exact HP22.1);clear HP22;replace HO_5:=A0_ (hp_);replace HB:=A0_ ((by rw [hw];exact bS (HB.out) GB16.out:Below w.heap.size w w23));clear hg hw hp_;have p288:0≤(x7_2:Int):=zd;have q288:x7_2<(l1.length:Int):=zd;obtain⟨ad288,e288,hx288_0⟩:=tI HR1.out x7_2 p288 q288;obtain rfl:ad283=ad288:=(by injection e288);try replace hx288_0:=(HB.out.cell (wL w _ hx288_0)).trans hx288_0;replace p288:=eq_true p288;replace q288:=eq_true q288;have p18:0≤((rd l1 x7_2):Int):=zd;have q18:((rd l1 x7_2):Int)<((x5_2.length:Int):Int):=zd;obtain⟨hx18_0,hf18_0⟩:=Kd.R_celln 0 HO_5.out ((rd l1 x7_2):Int) p18 q18;replace p18:=eq_true p18;replace q18:=eq_true q18;obtain⟨hy24_,hz24_⟩:=Kd.R_celln 0 HO_5.out ((rd l1 x7_2):Int) (zd) (zd);have HP24:=Kd.R_putg HO_5.out ((rd l1 x7_2):Int) ji15)|((with_reducible refine gS (t:=3) (p:=61) rfl ?_);(try(rw [drewN_self w23];generalize hq_:World.drewN w23 _=w23;have n0_:=A0_ (Kd.R_at hq_ HO_5.out);have n1_:=A0_ (below_at hq_ HB.out);clear hq_ HO_5 HB;have HO_5:=n0_;have HB:=n1_;clear n0_ n1_;(try(obtain⟨hx16_0,hf16_0⟩:=Kd.R_celln 0 HO_5.out (x7_2:Int) (of_eq_true p16) (of_eq_true q16)));(try(obtain⟨hy24_,hz24_⟩:=Kd.R_celln 0 HO_5.out ((rd l1 x7_2):Int) (zd) (zd)));(try(have HP24:=Kd.R_putg HO_5.out ((rd l1 x7_2):Int) ji15))));refine store_event (t:=3) (p:=61) (v := ?vo_w25) (w1:=(w23.setCell ⟨go16,((rd l1 x7_2):Int).toNat,none⟩ (.int .i64 ji15))) ?hg ?ho ?hn ?hr ?_;(case ho=>rfl);(case hg=>rfl);(case hn=>rfl);(case hr=>first|(go_simp;done)|(go_simp;rfl)|(go_simp;congr 2;rw [← hji14];unfold mn;omega)|(go_simp;congr 2;rw [← hji15];unfold mn;omega));intro w25 hw;have hg:w23.grownBy w25 (some go16):=(by rw [hw];exact HP24.2);have hp_:Kd.R (Kd.int .i64) 3 w25 w.heap.size (fun _=>True) (.slice (some ⟨go16,0,none⟩) x5_2.length co19) y289:=(by rw [hw,Ny289.out];exact HP24.1);clear HP24;replace HO_5:=A0_ (hp_);replace HB:=A0_ ((by rw [hw];exact bS (HB.out) GB16.out:Below w.heap.size w w25));clear hg hw hp_));try go_wp2_with (first|((with_reducible refine gS (t:=3) (p:=47) rfl ?_);(try(rw [drewN_self wr];generalize hq_:World.drewN wr _=wr;have n0_:=A0_ (Kd.R_at hq_ HO_5.out);have n1_:=A0_ (below_at hq_ HB.out);clear hq_ HO_5 HB;have HO_5:=n0_;have HB:=n1_;clear n0_ n1_;(try(obtain⟨hx16_0,hf16_0⟩:=Kd.R_celln 0 HO_5.out (x7_2:Int) (of_eq_true p16) (of_eq_true q16)));(try(have HP20:=Kd.R_putg HO_5.out (x7_2:Int) ji15))));refine store_event (t:=3) (p:=47) (v := ?vo_w21) (w1:=(wr.setCell ⟨go16,(x7_2:Int).toNat,none⟩ (.int .i64 ji15))) ?hg ?ho ?hn ?hr ?_;(case ho=>rfl);(case hg=>rfl);(case hn=>rfl);(case hr=>first|(go_simp;done)|(go_simp;rfl)|(go_simp;congr 2;rw [← hji14];unfold mn;omega)|(go_simp;congr 2;rw [← hji15];unfold mn;omega));intro w21 hw;have hg:wr.grownBy w21 (some go16):=(by rw [hw];exact HP20.2);have hp_:Kd.R (Kd.int .i64) 3 w21 w.heap.size (fun _=>True) (.slice (some ⟨go16,0,none⟩) x5_2.length co19) y285:=(by rw [hw,Ny285.out];exact HP20.1);clear HP20;have n0_:=A0_ (hp_);have n1_:=A0_ ((by rw [hw];exact bS (HB.out) GB16.out:Below w.heap.size w w21));clear HO_5 HB;have HO_5:=n0_;have HB:=n1_;clear n0_ n1_ hg hw hp_;have p286:0≤(x7_2:Int):=zd;have q286:x7_2<(l0.length:Int):=zd;obtain⟨ad286,e286,hx286_0⟩:=tI HR0.out x7_2 p286 q286;obtain rfl:ad281=ad286:=(by injection e286);try replace hx286_0:=(HB.out.cell (wL w _ hx286_0)).trans hx286_0;replace p286:=eq_true p286;replace q286:=eq_true q286;have p17:0≤((rd l0 x7_2):Int):=zd;have q17:((rd l0 x7_2):Int)<((x5_2.length:Int):Int):=zd;obtain⟨hx17_0,hf17_0⟩:=Kd.R_celln 0 HO_5.out ((rd l0 x7_2):Int) p17 q17;replace p17:=eq_true p17;replace q17:=eq_true q17;obtain⟨hy22_,hz22_⟩:=Kd.R_celln 0 HO_5.out ((rd l0 x7_2):Int) (zd) (zd);have HP22:=Kd.R_putg HO_5.out ((rd l0 x7_2):Int) ji15)|((with_reducible refine gS (t:=3) (p:=54) rfl ?_);(try(rw [drewN_self w21];generalize hq_:World.drewN w21 _=w21;have n0_:=A0_ (Kd.R_at hq_ HO_5.out);have n1_:=A0_ (below_at hq_ HB.out);clear hq_ HO_5 HB;have HO_5:=n0_;have HB:=n1_;clear n0_ n1_;(try(obtain⟨hx16_0,hf16_0⟩:=Kd.R_celln 0 HO_5.out (x7_2:Int) (of_eq_true p16) (of_eq_true q16)));(try(obtain⟨hy22_,hz22_⟩:=Kd.R_celln 0 HO_5.out ((rd l0 x7_2):Int) (zd) (zd)));(try(have HP22:=Kd.R_putg HO_5.out ((rd l0 x7_2):Int) ji15))));refine store_event (t:=3) (p:=54) (v := ?vo_w23) (w1:=(w21.setCell ⟨go16,((rd l0 x7_2):Int).toNat,none⟩ (.int .i64 ji15))) ?hg ?ho ?hn ?hr ?_;(case ho=>rfl);(case hg=>rfl);(case hn=>rfl);(case hr=>first|(go_simp;done)|(go_simp;rfl)|(go_simp;congr 2;rw [← hji14];unfold mn;omega)|(go_simp;congr 2;rw [← hji15];unfold mn;omega));intro w23 hw;have hg:w21.grownBy w23 (some go16):=(by rw [hw];exact HP22.2);have hp_:Kd.R (Kd.int .i64) 3 w23 w.heap.size (fun _=>True) (.slice (some ⟨go16,0,none⟩) x5_2.length co19) y287:=(by rw [hw,Ny287.out];exact HP22.1);clear HP22;have n0_:=A0_ (hp_);have n1_:=A0_ ((by rw [hw];exact bS (HB.out) GB16.out:Below w.heap.size w w23));clear HO_5 HB;have HO_5:=n0_;have HB:=n1_;clear n0_ n1_ hg hw hp_;have p288:0≤(x7_2:Int):=zd;have q288:x7_2<(l1.length:Int):=zd;obtain⟨ad288,e288,hx288_0⟩:=tI HR1.out x7_2 p288 q288;obtain rfl:ad283=ad288:=(by injection e288);try replace hx288_0:=(HB.out.cell (wL w _ hx288_0)).trans hx288_0;replace p288:=eq_true p288;replace q288:=eq_true q288;have p18:0≤((rd l1 x7_2):Int):=zd;have q18:((rd l1 x7_2):Int)<((x5_2.length:Int):Int):=zd;obtain⟨hx18_0,hf18_0⟩:=Kd.R_celln 0 HO_5.out ((rd l1 x7_2):Int) p18 q18;replace p18:=eq_true p18;replace q18:=eq_true q18;obtain⟨hy24_,hz24_⟩:=Kd.R_celln 0 HO_5.out ((rd l1 x7_2):Int) (zd) (zd);have HP24:=Kd.R_putg HO_5.out ((rd l1 x7_2):Int) ji15)|((with_reducible refine gS (t:=3) (p:=61) rfl ?_);(try(rw [drewN_self w23];generalize hq_:World.drewN w23 _=w23;have n0_:=A0_ (Kd.R_at hq_ HO_5.out);have n1_:=A0_ (below_at hq_ HB.out);clear hq_ HO_5 HB;have HO_5:=n0_;have HB:=n1_;clear n0_ n1_;(try(obtain⟨hx16_0,hf16_0⟩:=Kd.R_celln 0 HO_5.out (x7_2:Int) (of_eq_true p16) (of_eq_true q16)));(try(obtain⟨hy24_,hz24_⟩:=Kd.R_celln 0 HO_5.out ((rd l1 x7_2):Int) (zd) (zd)));(try(have HP24:=Kd.R_putg HO_5.out ((rd l1 x7_2):Int) ji15))));refine store_event (t:=3) (p:=61) (v := ?vo_w25) (w1:=(w23.setCell ⟨go16,((rd l1 x7_2):Int).toNat,none⟩ (.int .i64 ji15))) ?hg ?ho ?hn ?hr ?_;(case ho=>rfl);(case hg=>rfl);(case hn=>rfl);(case hr=>first|(go_simp;done)|(go_simp;rfl)|(go_simp;congr 2;rw [← hji14];unfold mn;omega)|(go_simp;congr 2;rw [← hji15];unfold mn;omega));intro w25 hw;have hg:w23.grownBy w25 (some go16):=(by rw [hw];exact HP24.2);have hp_:Kd.R (Kd.int .i64) 3 w25 w.heap.size (fun _=>True) (.slice (some ⟨go16,0,none⟩) x5_2.length co19) y289:=(by rw [hw,Ny289.out];exact HP24.1);clear HP24;have n0_:=A0_ (hp_);have n1_:=A0_ ((by rw [hw];exact bS (HB.out) GB16.out:Below w.heap.size w w25));clear HO_5 HB;have HO_5:=n0_;have HB:=n1_;clear n0_ n1_ hg hw hp_)))
       go_roundg k2
       case measure=>have:=HK1.out;have:=HK2.out;omega
       case rel=>exact⟨(y289),(wrap64 (x7_2+1)),zt,H',⟨by have:=HK1.out;have:=HK2.out;omega⟩,⟨zR_ HO_5⟩,⟨zB_ HB⟩⟩
      rw [if_neg c6] at H;have c6b0:=dF c6;clear c6;have H':=A0_ H;clear H
      go_wp2
      repeat(go_quiet (fail);try go_wp2)
      go_roundg k2
      case measure=>have:=HK1.out;have:=HK2.out;omega
      case rel=>exact⟨(x5_2),(wrap64 (x6_1+1)),zt,H',⟨by have:=HK1.out;have:=HK2.out;omega⟩,⟨zR_ HO_5⟩,⟨zB_ HB⟩⟩
   rw [if_neg c5] at H;have c5b0:=dF c5;clear c5;obtain rfl:=sI H
   go_wp2
   repeat(go_quiet (fail);try go_wp2)
   go_ret
   exact⟨_,by first|rfl|(simp [*] <;> rfl),zR_ HO_5,zB_ HB⟩

/-! ### spec_MapValid: function 57 -/
mutual
def spec_MapValid.l0:Nat→Int→List Int→List Int→Option (Bool)
  | 0,_,_,_=>none
  | k+1,x3,x291000,x291001=>if x3<(x291001.length:Int) then (if 0≤x3 then (if (rd x291001 x3)=x3 then (some false) else (if 0≤(rd x291001 x3) then (if (rd x291001 x3)<(x291001.length:Int) then (if (rd x291001 (rd x291001 x3))=x3 then (spec_MapValid.l0 k (wrap64 (x3+1)) x291000 x291001) else (some false)) else (none)) else (none))) else (none)) else ((spec_l1Orbits.f k x291000 x291001).bind fun t295=>(spec_MapValid.l1 k t295 0))
def spec_MapValid.l1:Nat→List Int→Int→Option (Bool)
  | 0,_,_=>none
  | k+1,x4,x5=>if x5<(x4.length:Int) then (if 0≤x5 then (if (rd x4 x5)=0 then (spec_MapValid.l1 k x4 (wrap64 (x5+1))) else (some false)) else (none)) else (some true)
end
def spec_MapValid.f (k:Nat) (l0_0:List Int) (l0_1:List Int):Option (Bool):=(spec_l1Both.f k l0_0 l0_1).bind fun t291=>(if t291=true then (spec_MapValid.l0 k 0 l0_0 l0_1) else (some false))
set_option maxHeartbeats 8000000 in
set_option maxRecDepth 100000 in
theorem spec_MapValid.calls (k:Nat) (A0_0:Option Addr) (c0_0:Nat) (l0_0:List Int) (A0_1:Option Addr) (c0_1:Nat) (l0_1:List Int) (r:Bool) (w:World) (hr0_0:Kd.C (Kd.int .i64) w A0_0 l0_0.length l0_0) (hc0_0:l0_0.length≤c0_0) (hr0_1:Kd.C (Kd.int .i64) w A0_1 l0_1.length l0_1) (hc0_1:l0_1.length≤c0_1) (h:spec_MapValid.f k l0_0 l0_1=some r) :
    Calls Try.prog 57 #[.agg #[.slice A0_0 l0_0.length c0_0,.slice A0_1 l0_1.length c0_1]] w fun e w'=>e = .returned (.bool r)∧Below w.heap.size w w':=by
 have hu25:=Try.underlying25;have HR0_0:=A0_ hr0_0;have HC0_0:=A0_ hc0_0;clear hr0_0 hc0_0;have HR0_1:=A0_ hr0_1;have HC0_1:=A0_ hc0_1;clear hr0_1 hc0_1
 have HB:=A0_ (Below.refl w.heap.size w)
 have H:((spec_l1Both.f k l0_0 l0_1).bind fun t291=>(if t291=true then (spec_MapValid.l0 k 0 l0_0 l0_1) else (some false)))=some r:=h
 clear h;obtain⟨t291,A2,H⟩:=zbind H
 by_cases c3:t291=true
 ·subst c3
  rw [if_pos rfl] at H;have H':=A0_ H;clear H
  go_enter Try.func57,Try.ntmps57
  go_wp2_with (first|((with_reducible refine gD (N:=1) rfl ?_);refine zX (N:=1) (cs := #[.slice A0_0 l0_0.length c0_0,.slice A0_1 l0_1.length c0_1]) (t:=25) ?_;intro gb290 hg w4 hbox hb;have BK290:=A0_ (hbox);have GW290:=zG hg HB;have GE290:=zG hg HB;replace HB:=zB HB hb;clear hb hbox hg;have hcz5_0:=zc0 BK290;have hcz5_1:=zc1 BK290;have hfz5_0:=kF BK290.out 0;have hfz5_1:=kF BK290.out 1)|(go_at_call 102;(with_reducible refine(spec_l1Both.calls k _ _ l0_0 _ _ l0_1 true _ ?side1 ?side2 ?side3 ?side4 A2.out).mono ?_);(case side1=>exact zC HR0_0 HB);(case side2=>exact HC0_0.out);(case side3=>exact zC HR0_1 HB);(case side4=>exact HC0_1.out);rintro e w' ⟨rfl,⟨nd,rfl⟩⟩;(try first|exact⟨rfl,_,World.drewN_drewN _ _ _⟩|exact⟨rfl,_,Eq.trans (World.drewN_drewN _ _ _) (congrArg (World.drewN _) (Nat.add_assoc _ _ _))⟩)))
  repeat(go_quiet (first|((with_reducible refine gD (N:=1) rfl ?_);refine zX (N:=1) (cs := #[.slice A0_0 l0_0.length c0_0,.slice A0_1 l0_1.length c0_1]) (t:=25) ?_;intro gb290 hg w4 hbox hb;have BK290:=A0_ (hbox);have GW290:=zG hg HB;have GE290:=zG hg HB;replace HB:=zB HB hb;clear hb hbox hg;have hcz5_0:=zc0 BK290;have hcz5_1:=zc1 BK290;have hfz5_0:=kF BK290.out 0;have hfz5_1:=kF BK290.out 1)|(go_at_call 102;(with_reducible refine(spec_l1Both.calls k _ _ l0_0 _ _ l0_1 true _ ?side1 ?side2 ?side3 ?side4 A2.out).mono ?_);(case side1=>exact zC HR0_0 HB);(case side2=>exact HC0_0.out);(case side3=>exact zC HR0_1 HB);(case side4=>exact HC0_1.out);rintro e w' ⟨rfl,⟨nd,rfl⟩⟩;(try first|exact⟨rfl,_,World.drewN_drewN _ _ _⟩|exact⟨rfl,_,Eq.trans (World.drewN_drewN _ _ _) (congrArg (World.drewN _) (Nat.add_assoc _ _ _))⟩)));try go_wp2_with (first|((with_reducible refine gD (N:=1) rfl ?_);refine zX (N:=1) (cs := #[.slice A0_0 l0_0.length c0_0,.slice A0_1 l0_1.length c0_1]) (t:=25) ?_;intro gb290 hg w4 hbox hb;have n0_:=zB HB hb;have n1_:=A0_ (hbox);have n2_:=zG hg HB;have n3_:=zG hg HB;clear HB;have HB:=n0_;have BK290:=n1_;have GW290:=n2_;have GE290:=n3_;clear n0_ n1_ n2_ n3_ hb hbox hg;have hcz5_0:=zc0 BK290;have hcz5_1:=zc1 BK290;have hfz5_0:=kF BK290.out 0;have hfz5_1:=kF BK290.out 1)|(go_at_call 102;(with_reducible refine(spec_l1Both.calls k _ _ l0_0 _ _ l0_1 true _ ?side1 ?side2 ?side3 ?side4 A2.out).mono ?_);(case side1=>exact zC HR0_0 HB);(case side2=>exact HC0_0.out);(case side3=>exact zC HR0_1 HB);(case side4=>exact HC0_1.out);rintro e w' ⟨rfl,⟨nd,rfl⟩⟩;(try first|exact⟨rfl,_,World.drewN_drewN _ _ _⟩|exact⟨rfl,_,Eq.trans (World.drewN_drewN _ _ _) (congrArg (World.drewN _) (Nat.add_assoc _ _ _))⟩))))
  go_loopg [3] k (fun kq v3 w' => ∃ (x3_1:Int),v3 = .int .i64 x3_1∧Aside0 (spec_MapValid.l0 kq x3_1 l0_0 l0_1=some r)∧Aside0 (kq≤k)∧Aside0 (w'.heap[gb290]? = some (.cells #[(.slice A0_0 l0_0.length c0_0),(.slice A0_1 l0_1.length c0_1)] 25 (0,0)))∧Aside0 (Below w.heap.size w w'))
  case atStart=>exact⟨(0),zt,H',⟨Nat.le_refl _⟩,⟨zK_ BK290⟩,⟨zB_ HB⟩⟩
  case round =>
   clear H';(try clear p2);(try clear c3);(try clear c5);(try clear hcz5_0);(try clear hcz5_1);(try clear hfz5_0);(try clear hfz5_1);obtain⟨x3_1,rfl,HA,HK1,BK290,HB⟩:=hrel
   cases gk with
   | zero=>exact absurd HA.out (by simp [spec_MapValid.l0])
   | succ k1 =>
    have H:=HA.out;clear HA;simp only [spec_MapValid.l0] at H
    by_cases c6:x3_1<(l0_1.length:Int)
    ·rw [if_pos c6] at H
     have c6b0:=dT c6;clear c6
     have c7:=zpc H;replace H:=zph H
     have c7b0:=dT c7;clear c7
     by_cases c8:(rd l0_1 x3_1)=x3_1
     ·rw [if_pos c8] at H
      have c8b0:((rd l0_1 x3_1) == x3_1)=true:=beq_iff_eq.mpr c8
      have c8b1:((rd l0_1 x3_1) != x3_1)=false:=bne_eq_false_iff_eq.mpr c8
      clear c8;obtain rfl:=sI H;have hcz9_0:=zc0 BK290;have hcz9_1:=zc1 BK290;have hfz9_0:=kF BK290.out 0;have hfz9_1:=kF BK290.out 1
      have p292:0≤(x3_1:Int):=zd
      have q292:x3_1<(l0_1.length:Int):=zd
      obtain⟨ad292,e292,hx292_0⟩:=tI HR0_1.out x3_1 p292 q292
      cases e292
      try replace hx292_0:=(HB.out.cell (wL w _ hx292_0)).trans hx292_0
      replace p292:=eq_true p292;replace q292:=eq_true q292
      go_wp2
      repeat(go_quiet (fail);try go_wp2)
      go_ret
      exact⟨by first|rfl|(simp [*] <;> rfl),zB_ HB⟩
     rw [if_neg c8] at H
     have c8b0:((rd l0_1 x3_1) == x3_1)=false:=beq_eq_false_iff_ne.mpr c8
     have c8b1:((rd l0_1 x3_1) != x3_1)=true:=bne_iff_ne.mpr c8
     have c10:=zpc H;replace H:=zph H
     have c10b0:=dT c10;clear c10
     have c11:=zpc H;replace H:=zph H
     have c11b0:=dT c11;clear c11
     by_cases c12:(rd l0_1 (rd l0_1 x3_1))=x3_1
     ·rw [if_pos c12] at H
      have c12b0:((rd l0_1 (rd l0_1 x3_1)) == x3_1)=true:=beq_iff_eq.mpr c12
      have c12b1:((rd l0_1 (rd l0_1 x3_1)) != x3_1)=false:=bne_eq_false_iff_eq.mpr c12
      clear c12;have H':=A0_ H;clear H;have hcz13_0:=zc0 BK290;have hcz13_1:=zc1 BK290;have hfz13_0:=kF BK290.out 0;have hfz13_1:=kF BK290.out 1
      have p292:0≤(x3_1:Int):=zd
      have q292:x3_1<(l0_1.length:Int):=zd
      obtain⟨ad292,e292,hx292_0⟩:=tI HR0_1.out x3_1 p292 q292
      cases e292
      try replace hx292_0:=(HB.out.cell (wL w _ hx292_0)).trans hx292_0
      replace p292:=eq_true p292;replace q292:=eq_true q292
      have p293:0≤(x3_1:Int):=zd
      have q293:x3_1<(l0_1.length:Int):=zd
      obtain⟨ad293,e293,hx293_0⟩:=tI HR0_1.out x3_1 p293 q293
      obtain rfl:ad292=ad293:=(by injection e293)
      try replace hx293_0:=(HB.out.cell (wL w _ hx293_0)).trans hx293_0
      replace p293:=eq_true p293;replace q293:=eq_true q293
      have p294:0≤((rd l0_1 x3_1):Int):=zd
      have q294:(rd l0_1 x3_1)<(l0_1.length:Int):=zd
      obtain⟨ad294,e294,hx294_0⟩:=tI HR0_1.out (rd l0_1 x3_1) p294 q294
      obtain rfl:ad292=ad294:=(by injection e294)
      try replace hx294_0:=(HB.out.cell (wL w _ hx294_0)).trans hx294_0
      replace p294:=eq_true p294;replace q294:=eq_true q294
      go_wp2
      repeat(go_quiet (fail);try go_wp2)
      go_roundg k1
      case measure=>have:=HK1.out;omega
      case rel=>exact⟨(wrap64 (x3_1+1)),zt,H',⟨by have:=HK1.out;omega⟩,⟨zK_ BK290⟩,⟨zB_ HB⟩⟩
     rw [if_neg c12] at H
     have c12b0:((rd l0_1 (rd l0_1 x3_1)) == x3_1)=false:=beq_eq_false_iff_ne.mpr c12
     have c12b1:((rd l0_1 (rd l0_1 x3_1)) != x3_1)=true:=bne_iff_ne.mpr c12
     obtain rfl:=sI H;have hcz14_0:=zc0 BK290;have hcz14_1:=zc1 BK290;have hfz14_0:=kF BK290.out 0;have hfz14_1:=kF BK290.out 1
     have p292:0≤(x3_1:Int):=zd
     have q292:x3_1<(l0_1.length:Int):=zd
     obtain⟨ad292,e292,hx292_0⟩:=tI HR0_1.out x3_1 p292 q292
     cases e292
     try replace hx292_0:=(HB.out.cell (wL w _ hx292_0)).trans hx292_0
     replace p292:=eq_true p292;replace q292:=eq_true q292
     have p293:0≤(x3_1:Int):=zd
     have q293:x3_1<(l0_1.length:Int):=zd
     obtain⟨ad293,e293,hx293_0⟩:=tI HR0_1.out x3_1 p293 q293
     obtain rfl:ad292=ad293:=(by injection e293)
     try replace hx293_0:=(HB.out.cell (wL w _ hx293_0)).trans hx293_0
     replace p293:=eq_true p293;replace q293:=eq_true q293
     have p294:0≤((rd l0_1 x3_1):Int):=zd
     have q294:(rd l0_1 x3_1)<(l0_1.length:Int):=zd
     obtain⟨ad294,e294,hx294_0⟩:=tI HR0_1.out (rd l0_1 x3_1) p294 q294
     obtain rfl:ad292=ad294:=(by injection e294)
     try replace hx294_0:=(HB.out.cell (wL w _ hx294_0)).trans hx294_0
     replace p294:=eq_true p294;replace q294:=eq_true q294
     go_wp2
     repeat(go_quiet (fail);try go_wp2)
     go_ret
     exact⟨by first|rfl|(simp [*] <;> rfl),zB_ HB⟩
    rw [if_neg c6] at H;have c6b0:=dF c6;clear c6;obtain⟨t295,A15,H⟩:=zbind H;have H':=A0_ H;clear H;have hcz16_0:=zc0 BK290;have hcz16_1:=zc1 BK290;have hfz16_0:=kF BK290.out 0;have hfz16_1:=kF BK290.out 1
    go_wp2_with (first|(go_at_call 103;(with_reducible refine(spec_l1Orbits.calls k1 _ _ l0_0 _ _ l0_1 t295 _ ?side1 ?side2 ?side3 ?side4 A15.out).mono ?_);(case side1=>exact zC HR0_0 HB);(case side2=>exact HC0_0.out);(case side3=>exact zC HR0_1 HB);(case side4=>exact HC0_1.out);rintro e w17 ⟨v296,rfl,ho0,hb⟩;have HO297:=A0_ (rL ho0 (bZ (zB_ HB)));replace BK290:=zK BK290 hb;replace HB:=zB HB hb;(try clear hb);(try clear ho0)))
    repeat(go_quiet (first|(go_at_call 103;(with_reducible refine(spec_l1Orbits.calls k1 _ _ l0_0 _ _ l0_1 t295 _ ?side1 ?side2 ?side3 ?side4 A15.out).mono ?_);(case side1=>exact zC HR0_0 HB);(case side2=>exact HC0_0.out);(case side3=>exact zC HR0_1 HB);(case side4=>exact HC0_1.out);rintro e w17 ⟨v296,rfl,ho0,hb⟩;have HO297:=A0_ (rL ho0 (bZ (zB_ HB)));replace BK290:=zK BK290 hb;replace HB:=zB HB hb;(try clear hb);(try clear ho0)));try go_wp2_with (first|(go_at_call 103;(with_reducible refine(spec_l1Orbits.calls k1 _ _ l0_0 _ _ l0_1 t295 _ ?side1 ?side2 ?side3 ?side4 A15.out).mono ?_);(case side1=>exact zC HR0_0 HB);(case side2=>exact HC0_0.out);(case side3=>exact zC HR0_1 HB);(case side4=>exact HC0_1.out);rintro e w17 ⟨v296,rfl,ho0,hb⟩;have n0_:=A0_ (rL ho0 (bZ (zB_ HB)));have n1_:=zK BK290 hb;have n2_:=zB HB hb;clear BK290 HB;have HO297:=n0_;have BK290:=n1_;have HB:=n2_;clear n0_ n1_ n2_;(try clear hb);(try clear hb2);(try clear hk);(try clear hi);(try clear ho0))))
    go_loopg [5] k1 (fun kq v5 w' => ∃ (x5_2:Int),v5 = .int .i64 x5_2∧Aside0 (spec_MapValid.l1 kq t295 x5_2=some r)∧Aside0 (kq≤k1)∧Aside0 (Kd.R (Kd.int .i64) 3 w' w.heap.size (fun _=>True) v296 t295)∧Aside0 (w'.heap[gb290]? = some (.cells #[(.slice A0_0 l0_0.length c0_0),(.slice A0_1 l0_1.length c0_1)] 25 (0,0)))∧Aside0 (Below w.heap.size w w'))
    case atStart=>exact⟨(0),zt,H',⟨Nat.le_refl _⟩,⟨zR_ HO297⟩,⟨zK_ BK290⟩,⟨zB_ HB⟩⟩
    case round =>
     clear H';(try clear c1);(try clear p2);(try clear q2);(try clear hx2);(try clear c3);(try clear c5);(try clear c6);(try clear c6b0);(try clear p6);(try clear c7);(try clear c7b0);(try clear c8);(try clear c8b0);(try clear c8b1);(try clear c10);(try clear c10b0);(try clear c11);(try clear c11b0);(try clear c12);(try clear c12b0);(try clear c12b1);(try clear hcz13_0);(try clear hcz13_1);(try clear hcz14_0);(try clear hcz14_1);(try clear hcz16_0);(try clear hcz16_1);(try clear hcz5_0);(try clear hcz5_1);(try clear hcz9_0);(try clear hcz9_1);(try clear hfz13_0);(try clear hfz13_1);(try clear hfz14_0);(try clear hfz14_1);(try clear hfz16_0);(try clear hfz16_1);(try clear hfz5_0);(try clear hfz5_1);(try clear hfz9_0);(try clear hfz9_1);(try clear hx292_0);(try clear hx293_0);(try clear hx294_0);(try clear p2);(try clear p292);(try clear p293);(try clear p294);(try clear q292);(try clear q293);(try clear q294);obtain⟨x5_2,rfl,HA,HK2,HO_4,BK290,HB⟩:=hrel
     cases gk with
     | zero=>exact absurd HA.out (by simp [spec_MapValid.l1])
     | succ k2 =>
      have H:=HA.out;clear HA;simp only [spec_MapValid.l1] at H
      by_cases c18:x5_2<(t295.length:Int)
      ·rw [if_pos c18] at H
       have c18b0:=dT c18;clear c18
       have c19:=zpc H;replace H:=zph H
       have c19b0:=dT c19;clear c19
       by_cases c20:(rd t295 x5_2)=0
       ·rw [if_pos c20] at H
        have c20b0:((rd t295 x5_2) == 0)=true:=beq_iff_eq.mpr c20
        have c20b1:((rd t295 x5_2) != 0)=false:=bne_eq_false_iff_eq.mpr c20
        clear c20;have H':=A0_ H;clear H;obtain⟨Ao21,co21,eo21⟩:=rS HO_4.out;subst eo21
        have p298:0≤(x5_2:Int):=zd
        have q298:x5_2<(t295.length:Int):=zd
        obtain⟨ad298,e298,hx298_0⟩:=tI (rR HO_4.out).2.2 x5_2 p298 q298
        cases e298
        replace p298:=eq_true p298;replace q298:=eq_true q298
        go_wp2
        repeat(go_quiet (fail);try go_wp2)
        go_roundg k2
        case measure=>have:=HK1.out;have:=HK2.out;omega
        case rel=>exact⟨(wrap64 (x5_2+1)),zt,H',⟨by have:=HK1.out;have:=HK2.out;omega⟩,⟨zR_ HO_4⟩,⟨zK_ BK290⟩,⟨zB_ HB⟩⟩
       rw [if_neg c20] at H
       have c20b0:((rd t295 x5_2) == 0)=false:=beq_eq_false_iff_ne.mpr c20
       have c20b1:((rd t295 x5_2) != 0)=true:=bne_iff_ne.mpr c20
       obtain rfl:=sI H;obtain⟨Ao22,co22,eo22⟩:=rS HO_4.out;subst eo22
       have p298:0≤(x5_2:Int):=zd
       have q298:x5_2<(t295.length:Int):=zd
       obtain⟨ad298,e298,hx298_0⟩:=tI (rR HO_4.out).2.2 x5_2 p298 q298
       cases e298
       replace p298:=eq_true p298;replace q298:=eq_true q298
       go_wp2
       repeat(go_quiet (fail);try go_wp2)
       go_ret
       exact⟨by first|rfl|(simp [*] <;> rfl),zB_ HB⟩
      rw [if_neg c18] at H;have c18b0:=dF c18;clear c18;obtain rfl:=sI H;obtain⟨Ao23,co23,eo23⟩:=rS HO_4.out;subst eo23
      go_wp2
      repeat(go_quiet (fail);try go_wp2)
      go_ret
      exact⟨by first|rfl|(simp [*] <;> rfl),zB_ HB⟩
 replace c3:=Bool.eq_false_iff.mpr c3;subst c3
 rw [if_neg (show ¬ (false=true) by decide)] at H
 obtain rfl:=sI H
 go_enter Try.func57,Try.ntmps57
 go_wp2_with (first|((with_reducible refine gD (N:=1) rfl ?_);refine zX (N:=1) (cs := #[.slice A0_0 l0_0.length c0_0,.slice A0_1 l0_1.length c0_1]) (t:=25) ?_;intro gb290 hg w24 hbox hb;have BK290:=A0_ (hbox);have GW290:=zG hg HB;have GE290:=zG hg HB;replace HB:=zB HB hb;clear hb hbox hg;have hcz25_0:=zc0 BK290;have hcz25_1:=zc1 BK290;have hfz25_0:=kF BK290.out 0;have hfz25_1:=kF BK290.out 1)|(go_at_call 102;(with_reducible refine(spec_l1Both.calls k _ _ l0_0 _ _ l0_1 false _ ?side1 ?side2 ?side3 ?side4 A2.out).mono ?_);(case side1=>exact zC HR0_0 HB);(case side2=>exact HC0_0.out);(case side3=>exact zC HR0_1 HB);(case side4=>exact HC0_1.out);rintro e w' ⟨rfl,⟨nd,rfl⟩⟩;(try first|exact⟨rfl,_,World.drewN_drewN _ _ _⟩|exact⟨rfl,_,Eq.trans (World.drewN_drewN _ _ _) (congrArg (World.drewN _) (Nat.add_assoc _ _ _))⟩)))
 repeat(go_quiet (first|((with_reducible refine gD (N:=1) rfl ?_);refine zX (N:=1) (cs := #[.slice A0_0 l0_0.length c0_0,.slice A0_1 l0_1.length c0_1]) (t:=25) ?_;intro gb290 hg w24 hbox hb;have BK290:=A0_ (hbox);have GW290:=zG hg HB;have GE290:=zG hg HB;replace HB:=zB HB hb;clear hb hbox hg;have hcz25_0:=zc0 BK290;have hcz25_1:=zc1 BK290;have hfz25_0:=kF BK290.out 0;have hfz25_1:=kF BK290.out 1)|(go_at_call 102;(with_reducible refine(spec_l1Both.calls k _ _ l0_0 _ _ l0_1 false _ ?side1 ?side2 ?side3 ?side4 A2.out).mono ?_);(case side1=>exact zC HR0_0 HB);(case side2=>exact HC0_0.out);(case side3=>exact zC HR0_1 HB);(case side4=>exact HC0_1.out);rintro e w' ⟨rfl,⟨nd,rfl⟩⟩;(try first|exact⟨rfl,_,World.drewN_drewN _ _ _⟩|exact⟨rfl,_,Eq.trans (World.drewN_drewN _ _ _) (congrArg (World.drewN _) (Nat.add_assoc _ _ _))⟩)));try go_wp2_with (first|((with_reducible refine gD (N:=1) rfl ?_);refine zX (N:=1) (cs := #[.slice A0_0 l0_0.length c0_0,.slice A0_1 l0_1.length c0_1]) (t:=25) ?_;intro gb290 hg w24 hbox hb;have n0_:=zB HB hb;have n1_:=A0_ (hbox);have n2_:=zG hg HB;have n3_:=zG hg HB;clear HB;have HB:=n0_;have BK290:=n1_;have GW290:=n2_;have GE290:=n3_;clear n0_ n1_ n2_ n3_ hb hbox hg;have hcz25_0:=zc0 BK290;have hcz25_1:=zc1 BK290;have hfz25_0:=kF BK290.out 0;have hfz25_1:=kF BK290.out 1)|(go_at_call 102;(with_reducible refine(spec_l1Both.calls k _ _ l0_0 _ _ l0_1 false _ ?side1 ?side2 ?side3 ?side4 A2.out).mono ?_);(case side1=>exact zC HR0_0 HB);(case side2=>exact HC0_0.out);(case side3=>exact zC HR0_1 HB);(case side4=>exact HC0_1.out);rintro e w' ⟨rfl,⟨nd,rfl⟩⟩;(try first|exact⟨rfl,_,World.drewN_drewN _ _ _⟩|exact⟨rfl,_,Eq.trans (World.drewN_drewN _ _ _) (congrArg (World.drewN _) (Nat.add_assoc _ _ _))⟩))))
 go_ret
 exact⟨by first|rfl|(simp [*] <;> rfl),zB_ HB⟩

/-! ### spec_l91Perm: function 87 -/
def spec_l91Perm.l0:Nat→Int→List Int→Int→List Int→Int→Option (List Int×Int)
  | 0,_,_,_,_,_=>none
  | k+1,x1,x5,x6,x1000,x1001=>if x6<x1 then ((spec_l6Rd_pick.f k x1000 x1001 (wrap64 (x6+1))).bind fun bt302=>(if bt302.1=x6 then (if x5.length<17592186044416 then (spec_l91Perm.l0 k x1 (x5 ++ [x6]) (wrap64 (x6+1)) x1000 bt302.2) else (none)) else (if 0≤bt302.1 then (if bt302.1<(x5.length:Int) then (if x5.length<17592186044416 then ((some (x5 ++ [rd x5 bt302.1]:List Int)).bind fun y308=>(if bt302.1<(y308.length:Int) then (spec_l91Perm.l0 k x1 (y308.set (bt302.1:Int).toNat x6) (wrap64 (x6+1)) x1000 bt302.2) else (none))) else (none)) else (none)) else (none)))) else (some (x5,x1001))
def spec_l91Perm.f (k:Nat) (s0_0:List Int) (s0_1:Int) (a1:Int):Option (List Int×Int):=spec_l91Perm.l0 k a1 (([]:List Int)) 0 s0_0 s0_1
set_option maxHeartbeats 8000000 in
set_option maxRecDepth 100000 in
theorem spec_l91Perm.calls (k:Nat) (g:Nat) (s0_0:List Int) (s0_1:Int) (a1:Int) (r1:List Int) (r2:Int) (w0 w:World) (hI:IsS82 w0 w g s0_0 s0_1) (hB:Below w0.heap.size w0 w) (h:spec_l91Perm.f k s0_0 s0_1 a1=some (r1,r2)) :
    Calls Try.prog 87 #[.pointer (some ⟨g,0,none⟩),.int .i64 a1] w fun e w' => ∃ v0_:Value,e = .returned (v0_)∧Kd.R (Kd.int .i64) 3 w' w.heap.size (fun _=>True) v0_ r1∧IsS82 w0 w' g s0_0 r2∧Below w0.heap.size w0 w'∧KeepBut w w' g none:=by
 have HI0:=A0_ hI
 have HK:=A0_ (KeepBut.refl w g none)
 have HL:=A0_ hB.size;clear hI;have HW0:=A0_ hB.size;have HB:=A0_ hB;clear hB
 have H:(spec_l91Perm.l0 k a1 (([]:List Int)) 0 s0_0 s0_1)=some (r1,r2):=h
 clear h
 obtain⟨y299,hy299⟩ : ∃ y_:List Int,y_=(([]:List Int)):=⟨_,rfl⟩
 replace H:(spec_l91Perm.l0 k a1 y299 0 s0_0 s0_1)=some (r1,r2):=zH hy299 H
 have Ny299:=A0_ hy299;clear hy299;have H':=A0_ H;clear H
 go_enter Try.func87,Try.ntmps87
 go_wp2_with (first|((with_reducible refine gD (N:=8) rfl ?_);refine Kd.R_lit (Kd.int .i64) _ 3 ?hg (N:=8) ?hd (xs:=([]:List Int)) (inner := []) (ok:=fun _=>True) (okp:=fun _=>True) ?hr ?hp (fun _ hk=>hk) trivial (Below.refl _ _) (Nat.le_refl _) (by simp) ?_;(case hd=>rfl);(case hg=>rfl);(case hr=>first|(go_simp;done)|(go_simp;rfl));(case hp=>exact(Reps.none _ _));intro v300 w3 ho4 hb hg_ hnew_;clear hg_ hnew_;(first|rw [← Ny299.out] at ho4|(simp only [Int.reduceToNat] at ho4;rw [← Ny299.out] at ho4));have HO301:=A0_ (rL ho4 (keep_size (w:=w) (g:=g) (row:=none) (by repeat(first|(with_reducible first|exact HK.out|apply KeepBut.set_|apply keep_drewN|apply keep_drew|apply keep_alloc)|exact HK.out))));replace HK:=A0_ (KeepBut.trans (by repeat(first|(with_reducible first|exact HK.out|apply KeepBut.set_|apply keep_drewN|apply keep_drew|apply keep_alloc)|exact HK.out)) (KeepBut.of_below hb g none) (.inl rfl));replace HB:=A0_ (bT (by repeat(first|(with_reducible first|exact HB.out|apply bA|apply bN|apply bD|refine bS ?_ (IsS82.ge HI0.out))|exact HB.out)) hb);replace HI0:=A0_ (IsS82.below (by repeat(first|(with_reducible first|exact HI0.out|apply IsS82.alloc|apply IsS82.drewN|apply IsS82.drew|apply IsS82.set_1)|exact HI0.out)) hb);clear hb ho4))
 go_loopg [5,6] k (fun kq v5 v6 w' => ∃ (x5_1:List Int) (x6_1:Int) (x1001_1:Int),v6 = .int .i64 x6_1∧Aside0 (spec_l91Perm.l0 kq a1 x5_1 x6_1 s0_0 x1001_1=some (r1,r2))∧Aside0 (kq≤k)∧Aside0 (Kd.R (Kd.int .i64) 3 w' w.heap.size (fun _=>True) v5 x5_1)∧Aside0 (IsS82 w0 w' g s0_0 x1001_1)∧Aside0 (KeepBut w w' g none)∧Aside0 (Below w0.heap.size w0 w'))
 case atStart=>exact⟨(y299),(0),(s0_1),zt,H',⟨Nat.le_refl _⟩,⟨zR_ HO301⟩,⟨by repeat(first|(with_reducible first|exact HI0.out|apply IsS82.alloc|apply IsS82.drewN|apply IsS82.drew|apply IsS82.set_1)|exact HI0.out)⟩,⟨by repeat(first|(with_reducible first|exact HK.out|apply KeepBut.set_|apply keep_drewN|apply keep_drew|apply keep_alloc)|exact HK.out)⟩,⟨by repeat(first|(with_reducible first|exact HB.out|apply bA|apply bN|apply bD|refine bS ?_ (IsS82.ge HI0.out))|exact HB.out)⟩⟩
 case round =>
  clear H';(try clear p2);obtain⟨x5_1,x6_1,x1001_1,rfl,HA,HK1,HO_5,HI0,HK,HB⟩:=hrel
  cases gk with
  | zero=>exact absurd HA.out (by simp [spec_l91Perm.l0])
  | succ k1 =>
   have H:=HA.out;clear HA;simp only [spec_l91Perm.l0] at H
   by_cases c5:x6_1<a1
   ·rw [if_pos c5] at H
    have c5b0:=dT c5;clear c5;obtain⟨⟨t302,t303⟩,A6,H⟩:=zbind H;dsimp only at H
    by_cases c7:t302=x6_1
    ·rw [if_pos c7] at H
     have c7b0:(t302 == x6_1)=true:=beq_iff_eq.mpr c7
     have c7b1:(t302 != x6_1)=false:=bne_eq_false_iff_eq.mpr c7
     clear c7
     have c8:=zpc H;replace H:=zph H
     have LMc8:=A0_ c8;clear c8
     obtain⟨y304,hy304⟩ : ∃ y_:List Int,y_=(x5_1 ++ [x6_1]):=⟨_,rfl⟩
     replace H:(spec_l91Perm.l0 k1 a1 y304 (wrap64 (x6_1+1)) s0_0 t303)=some (r1,r2):=zH hy304 H
     have Ny304:=A0_ hy304;clear hy304;have H':=A0_ H;clear H
     go_wp2_with (first|((with_reducible refine gC (f:=74) rfl ?_);refine zJ (some 17) Try.func74 #[.pointer (some ⟨g,0,none⟩),.int .i64 (wrap64 (x6_1+1))] ?_;(with_reducible refine(spec_l6Rd_pick.calls k1 g s0_0 x1001_1 (wrap64 (x6_1+1)) t302 t303 w0 _ ?side1 ?side2 A6.out).mono ?_);(case side1=>repeat(first|(with_reducible first|exact HI0.out|apply IsS82.alloc|apply IsS82.drewN|apply IsS82.drew|apply IsS82.set_1)|exact HI0.out));(case side2=>repeat(first|(with_reducible first|exact HB.out|apply bA|apply bN|apply bD|refine bS ?_ (IsS82.ge HI0.out))|exact HB.out));rintro e w9 ⟨rfl,hi,hb,hk⟩;refine⟨_,rfl,?_⟩;replace HO_5:=A0_ (rM (Kd.R_keep (IsS82.apart (show IsS82 w0 _ g s0_0 x1001_1 from by repeat(first|(with_reducible first|exact HI0.out|apply IsS82.alloc|apply IsS82.drewN|apply IsS82.drew|apply IsS82.set_1)|exact HI0.out)) (zR_ HO_5) (by decide)) hk (fun _ h=>h.2)) (fun _ h=>h.1));replace HK:=A0_ (KeepBut.trans (by repeat(first|(with_reducible first|exact HK.out|apply KeepBut.set_|apply keep_drewN|apply keep_drew|apply keep_alloc)|exact HK.out)) hk (.inl rfl));replace HB:=A0_ (hb);replace HI0:=A0_ (hi);(try clear hb))|((with_reducible refine gB (b := .append) (xs := #[.tmp 21,.tmp 23]) rfl ?_);at_builtin;refine Kd.R_append (Kd.int .i64) w.heap.size rfl (.tmp 21) (.tmp 23) 23 3 (.int .i64 0) 8 rfl Try.underlying23 info3 rfl (by decide) (by omega) u5 x5_1 x6_1 [.int .i64 x6_1] (fun _=>True) (fun _=>False) rfl rfl ?aP (fun _ hk=>hk.elim) ?aF ?aO (Below.refl _ _) ?aS ?aL ?_;(case aP=>exact rfl);(case aF=>exact(fun _ _=>trivial));(case aO=>exact(zR_ HO_5));(case aS=>exact(keep_size (w:=w) (g:=g) (row:=none) (by repeat(first|(with_reducible first|exact HK.out|apply KeepBut.set_|apply keep_drewN|apply keep_drew|apply keep_alloc)|exact HK.out))));(case aL=>have:=LMc8.out;omega);intro v305 w10 ho hb hg hat;rw [← Ny304.out] at ho;replace HB:=A0_ (below_weaken (by repeat(first|(with_reducible first|exact HB.out|apply bA|apply bN|apply bD|refine bS ?_ (IsS82.ge HI0.out))|exact HB.out)) HL.out hb);replace HI0:=A0_ (IsS82.grown (by repeat(first|(with_reducible first|exact HI0.out|apply IsS82.alloc|apply IsS82.drewN|apply IsS82.drew|apply IsS82.set_1)|exact HI0.out)) hg (IsS82.own_ne HI0.out HO_5.out (by decide)));replace HK:=A0_ (KeepBut.trans (by repeat(first|(with_reducible first|exact HK.out|apply KeepBut.set_|apply keep_drewN|apply keep_drew|apply keep_alloc)|exact HK.out)) (KeepBut.of_grown hg g) (Kd.R_base2 HO_5.out));have HO306:=A0_ (ho);clear HO_5 ho hb hg hat))
     go_roundg k1
     case measure=>have:=HK1.out;omega
     case rel=>exact⟨(y304),(wrap64 (x6_1+1)),(t303),zt,H',⟨by have:=HK1.out;omega⟩,⟨zR_ HO306⟩,⟨by repeat(first|(with_reducible first|exact HI0.out|apply IsS82.alloc|apply IsS82.drewN|apply IsS82.drew|apply IsS82.set_1)|exact HI0.out)⟩,⟨by repeat(first|(with_reducible first|exact HK.out|apply KeepBut.set_|apply keep_drewN|apply keep_drew|apply keep_alloc)|exact HK.out)⟩,⟨by repeat(first|(with_reducible first|exact HB.out|apply bA|apply bN|apply bD|refine bS ?_ (IsS82.ge HI0.out))|exact HB.out)⟩⟩
    rw [if_neg c7] at H
    have c7b0:(t302 == x6_1)=false:=beq_eq_false_iff_ne.mpr c7
    have c7b1:(t302 != x6_1)=true:=bne_iff_ne.mpr c7
    have c11:=zpc H;replace H:=zph H
    have c11b0:=dT c11;clear c11
    have c12:=zpc H;replace H:=zph H
    have c12b0:=dT c12;clear c12
    have c13:=zpc H;replace H:=zph H
    have LMc13:=A0_ c13;clear c13
    obtain⟨y308,hy308⟩ : ∃ y_:List Int,y_=(x5_1 ++ [rd x5_1 t302]):=⟨_,rfl⟩
    replace H:(if t302<(y308.length:Int) then (spec_l91Perm.l0 k1 a1 (y308.set (t302:Int).toNat x6_1) (wrap64 (x6_1+1)) s0_0 t303) else (none))=some (r1,r2):=zH hy308 H
    have Ny308:=A0_ hy308;clear hy308
    have c14:=zpc H;replace H:=zph H
    have c14b0:=dT c14;clear c14
    obtain⟨y311,hy311⟩ : ∃ y_:List Int,y_=(y308.set (t302:Int).toNat x6_1):=⟨_,rfl⟩
    replace H:(spec_l91Perm.l0 k1 a1 y311 (wrap64 (x6_1+1)) s0_0 t303)=some (r1,r2):=zH hy311 H
    have Ny311:=A0_ hy311;clear hy311;have H':=A0_ H;clear H
    go_wp2_with (first|((with_reducible refine gC (f:=74) rfl ?_);refine zJ (some 17) Try.func74 #[.pointer (some ⟨g,0,none⟩),.int .i64 (wrap64 (x6_1+1))] ?_;(with_reducible refine(spec_l6Rd_pick.calls k1 g s0_0 x1001_1 (wrap64 (x6_1+1)) t302 t303 w0 _ ?side1 ?side2 A6.out).mono ?_);(case side1=>repeat(first|(with_reducible first|exact HI0.out|apply IsS82.alloc|apply IsS82.drewN|apply IsS82.drew|apply IsS82.set_1)|exact HI0.out));(case side2=>repeat(first|(with_reducible first|exact HB.out|apply bA|apply bN|apply bD|refine bS ?_ (IsS82.ge HI0.out))|exact HB.out));rintro e w16 ⟨rfl,hi,hb,hk⟩;refine⟨_,rfl,?_⟩;replace HO_5:=A0_ (rM (Kd.R_keep (IsS82.apart (show IsS82 w0 _ g s0_0 x1001_1 from by repeat(first|(with_reducible first|exact HI0.out|apply IsS82.alloc|apply IsS82.drewN|apply IsS82.drew|apply IsS82.set_1)|exact HI0.out)) (zR_ HO_5) (by decide)) hk (fun _ h=>h.2)) (fun _ h=>h.1));replace HK:=A0_ (KeepBut.trans (by repeat(first|(with_reducible first|exact HK.out|apply KeepBut.set_|apply keep_drewN|apply keep_drew|apply keep_alloc)|exact HK.out)) hk (.inl rfl));replace HB:=A0_ (hb);replace HI0:=A0_ (hi);(try clear hb);obtain⟨Ao17,co17,eo17⟩:=rS HO_5.out;subst eo17;have p307:0≤(t302:Int):=zd;have q307:t302<(x5_1.length:Int):=zd;obtain⟨ad307,e307,hx307_0⟩:=tI (rR HO_5.out).2.2 t302 p307 q307;cases e307;replace p307:=eq_true p307;replace q307:=eq_true q307)|((with_reducible refine gB (b := .append) (xs := #[.tmp 25,.tmp 30]) rfl ?_);at_builtin;refine Kd.R_append (Kd.int .i64) w.heap.size rfl (.tmp 25) (.tmp 30) 23 3 (.int .i64 0) 8 rfl Try.underlying23 info3 rfl (by decide) (by omega) (.slice (some ad307) x5_1.length co17) x5_1 (rd x5_1 t302) [.int .i64 (rd x5_1 t302)] (fun _=>True) (fun _=>False) rfl rfl ?aP (fun _ hk=>hk.elim) ?aF ?aO (Below.refl _ _) ?aS ?aL ?_;(case aP=>exact rfl);(case aF=>exact(fun _ _=>trivial));(case aO=>exact(zR_ HO_5));(case aS=>exact(keep_size (w:=w) (g:=g) (row:=none) (by repeat(first|(with_reducible first|exact HK.out|apply KeepBut.set_|apply keep_drewN|apply keep_drew|apply keep_alloc)|exact HK.out))));(case aL=>have:=LMc13.out;omega);intro v309 w18 ho hb hg hat;rw [← Ny308.out] at ho;replace HB:=A0_ (below_weaken (by repeat(first|(with_reducible first|exact HB.out|apply bA|apply bN|apply bD|refine bS ?_ (IsS82.ge HI0.out))|exact HB.out)) HL.out hb);replace HI0:=A0_ (IsS82.grown (by repeat(first|(with_reducible first|exact HI0.out|apply IsS82.alloc|apply IsS82.drewN|apply IsS82.drew|apply IsS82.set_1)|exact HI0.out)) hg (IsS82.own_ne HI0.out HO_5.out (by decide)));replace HK:=A0_ (KeepBut.trans (by repeat(first|(with_reducible first|exact HK.out|apply KeepBut.set_|apply keep_drewN|apply keep_drew|apply keep_alloc)|exact HK.out)) (KeepBut.of_grown hg g) (Kd.R_base2 HO_5.out));have HO310:=A0_ (ho);clear HO_5 ho hb hg hat;have p15:0≤(t302:Int):=zd;have q15:(t302:Int)<((y308.length:Int):Int):=zd;obtain⟨go15,co15,eo15,gb15,gl15,cl15,HG15⟩:=Kd.R_form HO310.out (by omega);(first|cases eo15|(injection eo15 with ea_ en_ ec_;(first|subst ea_|(injection ea_ with ea_;subst ea_));subst ec_;clear en_));have GB15:=A0_ gb15;have GG15:=A0_ HG15;clear gb15 gl15 HG15;obtain⟨hx15_0,hf15_0⟩:=Kd.R_celln 0 HO310.out (t302:Int) p15 q15;replace p15:=eq_true p15;replace q15:=eq_true q15;obtain⟨hy19_,hz19_⟩:=Kd.R_celln 0 HO310.out (t302:Int) (zd) (zd);have HP19:=Kd.R_putg HO310.out (t302:Int) x6_1)|((with_reducible refine gS (t:=3) (p:=35) rfl ?_);refine store_event (t:=3) (p:=35) (v := ?vo_w20) (w1:=(w18.setCell ⟨go15,(t302:Int).toNat,none⟩ (.int .i64 x6_1))) ?hg ?ho ?hn ?hr ?_;(case ho=>rfl);(case hg=>rfl);(case hn=>rfl);(case hr=>first|(go_simp;done)|(go_simp;rfl));intro w20 hw;have hg:w18.grownBy w20 (some go15):=(by rw [hw];exact HP19.2);have hp_:Kd.R (Kd.int .i64) 3 w20 w.heap.size (fun _=>True) (.slice (some ⟨go15,0,none⟩) y308.length co15) y311:=(by rw [hw,Ny311.out];exact HP19.1);clear HP19;replace HI0:=A0_ (IsS82.grown (by repeat(first|(with_reducible first|exact HI0.out|apply IsS82.alloc|apply IsS82.drewN|apply IsS82.drew|apply IsS82.set_1)|exact HI0.out)) hg (IsS82.own_ne HI0.out HO310.out (by decide)));replace HB:=A0_ ((by rw [hw];exact bS (HB.out) (Nat.le_trans HL.out GB15.out):Below w0.heap.size w0 w20));replace HK:=A0_ (KeepBut.trans (by repeat(first|(with_reducible first|exact HK.out|apply KeepBut.set_|apply keep_drewN|apply keep_drew|apply keep_alloc)|exact HK.out)) (KeepBut.of_grown hg g) (Kd.R_base2 HO310.out));replace HO310:=A0_ (hp_);clear hg hw hp_))
    go_roundg k1
    case measure=>have:=HK1.out;omega
    case rel=>exact⟨(y311),(wrap64 (x6_1+1)),(t303),zt,H',⟨by have:=HK1.out;omega⟩,⟨zR_ HO310⟩,⟨by repeat(first|(with_reducible first|exact HI0.out|apply IsS82.alloc|apply IsS82.drewN|apply IsS82.drew|apply IsS82.set_1)|exact HI0.out)⟩,⟨by repeat(first|(with_reducible first|exact HK.out|apply KeepBut.set_|apply keep_drewN|apply keep_drew|apply keep_alloc)|exact HK.out)⟩,⟨by repeat(first|(with_reducible first|exact HB.out|apply bA|apply bN|apply bD|refine bS ?_ (IsS82.ge HI0.out))|exact HB.out)⟩⟩
   rw [if_neg c5] at H;have c5b0:=dF c5;clear c5;simp only [Option.some.injEq,Prod.mk.injEq] at H;obtain⟨rfl,rfl⟩:=H
   go_wp2
   go_ret
   exact⟨_,by first|rfl|(simp [*] <;> rfl),zR_ HO_5,by repeat(first|(with_reducible first|exact HI0.out|apply IsS82.alloc|apply IsS82.drewN|apply IsS82.drew|apply IsS82.set_1)|exact HI0.out),by repeat(first|(with_reducible first|exact HB.out|apply bA|apply bN|apply bD|refine bS ?_ (IsS82.ge HI0.out))|exact HB.out),by repeat(first|(with_reducible first|exact HK.out|apply KeepBut.set_|apply keep_drewN|apply keep_drew|apply keep_alloc)|exact HK.out)⟩

end Go.Proofs.Ytmegggomhjgehaa.PFnCover
