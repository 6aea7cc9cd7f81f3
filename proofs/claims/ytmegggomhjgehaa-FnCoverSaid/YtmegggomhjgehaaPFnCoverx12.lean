-- Made by a program of this session (wip/tools) out of the loaded program; not trusted: Lean checks it.
import Derived.Shelf.Sort.Plain
import Derived.Shelf.Slices.Reverse
import Derived.Shelf.Slices.In.SortNone
import Derived.Sort.OwnSortedInts
import Derived.Test.YtmegggomhjgehaaPFnCoverx0
import Derived.Test.YtmegggomhjgehaaPFnCoverx2
import Derived.Test.YtmegggomhjgehaaPFnCoverx5
-- packed
-- packed2
namespace Go.Proofs.Ytmegggomhjgehaa.PFnCover
open Go.RowKit Go.Proofs.YtmegggomhjgehaaW.PrintWords Go.Proofs.YtmegggomhjgehaaW.PrintLast Go.Proofs.YtmegggomhjgehaaW.PrintMore
attribute [local go_sem] max2_int min2_int max_two min_two max_three min_three max_four min_four
set_option linter.unusedVariables false
set_option linter.unusedSimpArgs false

/-! ### laws_sameInts: function 38 -/
def laws_sameInts.l0:Nat→List Int→List Int→Int→Option (Bool)
  | 0,_,_,_=>none
  | k+1,x0,x1,x5=>if x5<(x0.length:Int) then (if 0≤x5 then (if x5<(x1.length:Int) then (if (rd x0 x5)=(rd x1 x5) then (laws_sameInts.l0 k x0 x1 (wrap64 (x5+1))) else (some false)) else (none)) else (none)) else (some true)
def laws_sameInts.f (k:Nat) (l0:List Int) (l1:List Int):Option (Bool):=if (l0.length:Int)=(l1.length:Int) then (laws_sameInts.l0 k l0 l1 0) else (some false)
set_option maxHeartbeats 8000000 in
set_option maxRecDepth 100000 in
theorem laws_sameInts.calls (k:Nat) (A0:Option Addr) (c0:Nat) (l0:List Int) (A1:Option Addr) (c1:Nat) (l1:List Int) (r:Bool) (w:World) (hr0:Kd.C (Kd.int .i64) w A0 l0.length l0) (hc0:l0.length≤c0) (hr1:Kd.C (Kd.int .i64) w A1 l1.length l1) (hc1:l1.length≤c1) (h:laws_sameInts.f k l0 l1=some r) :
    Calls Try.prog 38 #[.slice A0 l0.length c0,.slice A1 l1.length c1] w fun e w'=>e = .returned (.bool r)∧Drawn0 w w':=by
 have HR0:=A0_ hr0;have HC0:=A0_ hc0;clear hr0 hc0;have HR1:=A0_ hr1;have HC1:=A0_ hc1;clear hr1 hc1
 have H:(if (l0.length:Int)=(l1.length:Int) then (laws_sameInts.l0 k l0 l1 0) else (some false))=some r:=h
 clear h
 by_cases c3:(l0.length:Int)=(l1.length:Int)
 ·rw [if_pos c3] at H
  have c3b0:((l0.length:Int) == (l1.length:Int))=true:=beq_iff_eq.mpr c3
  have c3b1:((l0.length:Int) != (l1.length:Int))=false:=bne_eq_false_iff_eq.mpr c3
  have c3b2:(l0.length == l1.length)=true:=by first|simpa using c3|(simp at c3 ⊢;omega)
  clear c3;have H':=A0_ H;clear H
  go_enter Try.func38,Try.ntmps38
  go_wp2
  repeat(go_quiet (fail);try go_wp2)
  go_loopg [5] k (fun kq v5 w' => ∃ (x5_1:Int),v5 = .int .i64 x5_1∧Aside0 (laws_sameInts.l0 kq l0 l1 x5_1=some r)∧Aside0 (kq≤k)∧Drawn0 w w')
  case atStart=>exact⟨(0),zt,H',⟨Nat.le_refl _⟩,by repeat(first|exact Drawn0.refl _|apply Drawn0.step)⟩
  case round =>
   clear H';(try clear c1);(try clear p2);(try clear c3);(try clear c3b0);(try clear c3b1);(try clear c3b2);obtain⟨x5_1,rfl,HA,HK1,⟨m1,rfl⟩⟩:=hrel
   cases gk with
   | zero=>exact absurd HA.out (by simp [laws_sameInts.l0])
   | succ k1 =>
    have H:=HA.out;clear HA;simp only [laws_sameInts.l0] at H
    by_cases c4:x5_1<(l0.length:Int)
    ·rw [if_pos c4] at H
     have c4b0:=dT c4;clear c4
     have c5:=zpc H;replace H:=zph H
     have c5b0:=dT c5;clear c5
     have c6:=zpc H;replace H:=zph H
     have c6b0:=dT c6;clear c6
     by_cases c7:(rd l0 x5_1)=(rd l1 x5_1)
     ·rw [if_pos c7] at H
      have c7b0:((rd l0 x5_1) == (rd l1 x5_1))=true:=beq_iff_eq.mpr c7
      have c7b1:((rd l0 x5_1) != (rd l1 x5_1))=false:=bne_eq_false_iff_eq.mpr c7
      clear c7;have H':=A0_ H;clear H
      have p482:0≤(x5_1:Int):=zd
      have q482:x5_1<(l0.length:Int):=zd
      obtain⟨ad482,e482,hx482_0⟩:=tI HR0.out x5_1 p482 q482
      cases e482
      replace p482:=eq_true p482;replace q482:=eq_true q482
      have p483:0≤(x5_1:Int):=zd
      have q483:x5_1<(l1.length:Int):=zd
      obtain⟨ad483,e483,hx483_0⟩:=tI HR1.out x5_1 p483 q483
      cases e483
      replace p483:=eq_true p483;replace q483:=eq_true q483
      go_wp2
      repeat(go_quiet (fail);try go_wp2)
      go_roundg k1
      case measure=>have:=HK1.out;omega
      case rel=>exact⟨(wrap64 (x5_1+1)),zt,H',⟨by have:=HK1.out;omega⟩,by repeat(first|exact Drawn0.refl _|apply Drawn0.step)⟩
     rw [if_neg c7] at H
     have c7b0:((rd l0 x5_1) == (rd l1 x5_1))=false:=beq_eq_false_iff_ne.mpr c7
     have c7b1:((rd l0 x5_1) != (rd l1 x5_1))=true:=bne_iff_ne.mpr c7
     obtain rfl:=sI H
     have p482:0≤(x5_1:Int):=zd
     have q482:x5_1<(l0.length:Int):=zd
     obtain⟨ad482,e482,hx482_0⟩:=tI HR0.out x5_1 p482 q482
     cases e482
     replace p482:=eq_true p482;replace q482:=eq_true q482
     have p483:0≤(x5_1:Int):=zd
     have q483:x5_1<(l1.length:Int):=zd
     obtain⟨ad483,e483,hx483_0⟩:=tI HR1.out x5_1 p483 q483
     cases e483
     replace p483:=eq_true p483;replace q483:=eq_true q483
     go_wp2
     repeat(go_quiet (fail);try go_wp2)
     go_ret
     exact⟨by first|rfl|(simp;done)|(simp [*];done),by repeat(first|exact Drawn0.refl _|apply Drawn0.step)⟩
    rw [if_neg c4] at H;have c4b0:=dF c4;clear c4;obtain rfl:=sI H
    go_wp2
    repeat(go_quiet (fail);try go_wp2)
    go_ret
    exact⟨by first|rfl|(simp;done)|(simp [*];done),by repeat(first|exact Drawn0.refl _|apply Drawn0.step)⟩
 rw [if_neg c3] at H
 have c3b0:((l0.length:Int) == (l1.length:Int))=false:=beq_eq_false_iff_ne.mpr c3
 have c3b1:((l0.length:Int) != (l1.length:Int))=true:=bne_iff_ne.mpr c3
 have c3b2:(l0.length == l1.length)=false:=by first|simpa using c3|(simp at c3 ⊢;omega)
 obtain rfl:=sI H
 go_enter Try.func38,Try.ntmps38
 go_wp2
 repeat(go_quiet (fail);try go_wp2)
 go_ret
 exact⟨by first|rfl|(simp;done)|(simp [*];done),by repeat(first|exact Drawn0.refl _|apply Drawn0.step)⟩

/-! ### laws_sameMap: function 42 -/
def laws_sameMap.f (k:Nat) (l0_0:List Int) (l0_1:List Int) (l1_0:List Int) (l1_1:List Int):Option (Bool):=(laws_sameInts.f k l0_0 l1_0).bind fun t486=>(if t486=true then ((laws_sameInts.f k l0_1 l1_1).bind fun t487=>(some t487)) else (some false))
set_option maxHeartbeats 8000000 in
set_option maxRecDepth 100000 in
theorem laws_sameMap.calls (k:Nat) (A0_0:Option Addr) (c0_0:Nat) (l0_0:List Int) (A0_1:Option Addr) (c0_1:Nat) (l0_1:List Int) (A1_0:Option Addr) (c1_0:Nat) (l1_0:List Int) (A1_1:Option Addr) (c1_1:Nat) (l1_1:List Int) (r:Bool) (w:World) (hr0_0:Kd.C (Kd.int .i64) w A0_0 l0_0.length l0_0) (hc0_0:l0_0.length≤c0_0) (hr0_1:Kd.C (Kd.int .i64) w A0_1 l0_1.length l0_1) (hc0_1:l0_1.length≤c0_1) (hr1_0:Kd.C (Kd.int .i64) w A1_0 l1_0.length l1_0) (hc1_0:l1_0.length≤c1_0) (hr1_1:Kd.C (Kd.int .i64) w A1_1 l1_1.length l1_1) (hc1_1:l1_1.length≤c1_1) (h:laws_sameMap.f k l0_0 l0_1 l1_0 l1_1=some r) :
    Calls Try.prog 42 #[.agg #[.slice A0_0 l0_0.length c0_0,.slice A0_1 l0_1.length c0_1],.agg #[.slice A1_0 l1_0.length c1_0,.slice A1_1 l1_1.length c1_1]] w fun e w'=>e = .returned (.bool r)∧Below w.heap.size w w':=by
 have hu25:=Try.underlying25;have HR0_0:=A0_ hr0_0;have HC0_0:=A0_ hc0_0;clear hr0_0 hc0_0;have HR0_1:=A0_ hr0_1;have HC0_1:=A0_ hc0_1;clear hr0_1 hc0_1;have HR1_0:=A0_ hr1_0;have HC1_0:=A0_ hc1_0;clear hr1_0 hc1_0;have HR1_1:=A0_ hr1_1;have HC1_1:=A0_ hc1_1;clear hr1_1 hc1_1
 have HB:=A0_ (Below.refl w.heap.size w)
 have H:((laws_sameInts.f k l0_0 l1_0).bind fun t486=>(if t486=true then ((laws_sameInts.f k l0_1 l1_1).bind fun t487=>(some t487)) else (some false)))=some r:=h
 clear h;obtain⟨t486,A3,H⟩:=zbind H
 by_cases c4:t486=true
 ·subst c4
  rw [if_pos rfl] at H;obtain⟨t487,A5,H⟩:=zbind H;obtain rfl:=sI H
  go_enter Try.func42,Try.ntmps42
  go_wp2_with (first|((with_reducible refine gD (N:=2) rfl ?_);refine zX (N:=2) (cs := #[.slice A0_0 l0_0.length c0_0,.slice A0_1 l0_1.length c0_1]) (t:=25) ?_;intro gb484 hg w6 hbox hb;have BK484:=A0_ (hbox);have GW484:=zG hg HB;have GE484:=zG hg HB;replace HB:=zB HB hb;clear hb hbox hg)|((with_reducible refine gD (N:=3) rfl ?_);refine zX (N:=3) (cs := #[.slice A1_0 l1_0.length c1_0,.slice A1_1 l1_1.length c1_1]) (t:=25) ?_;intro gb485 hg w7 hbox hb;have BK485:=A0_ (hbox);have GW485:=zG hg HB;have GE485:=zG hg HB;replace HB:=zB HB hb;have NB484_485:=zL hg BK484;have NB485_484:=zM hg BK484;replace BK484:=zK BK484 hb;clear hb hbox hg;have hnb8:=NB484_485.out;have hnc8:=NB485_484.out;have hcz9_0:=zc0 BK484;have hcz9_1:=zc1 BK484;have hfz9_0:=kF BK484.out 0;have hfz9_1:=kF BK484.out 1;have hcz10_0:=zc0 BK485;have hcz10_1:=zc1 BK485;have hfz10_0:=kF BK485.out 0;have hfz10_1:=kF BK485.out 1)|((with_reducible refine gC (f:=38) rfl ?_);refine zJ (some 9) Try.func38 #[.slice A0_0 l0_0.length c0_0,.slice A1_0 l1_0.length c1_0] ?_;(with_reducible refine(laws_sameInts.calls k _ _ l0_0 _ _ l1_0 true _ ?side1 ?side2 ?side3 ?side4 A3.out).mono ?_);(case side1=>exact zC HR0_0 HB);(case side2=>exact HC0_0.out);(case side3=>exact zC HR1_0 HB);(case side4=>exact HC1_0.out);rintro e w' ⟨rfl,⟨nd,rfl⟩⟩;refine⟨_,rfl,?_⟩)|(go_at_call 38;(with_reducible refine(laws_sameInts.calls k _ _ l0_1 _ _ l1_1 t487 _ ?side1 ?side2 ?side3 ?side4 A5.out).mono ?_);(case side1=>repeat(first|exact(cB HR0_1.out (zB_ HB))|(with_reducible refine cA ?_ _)|(with_reducible refine cN ?_ _)|(with_reducible refine cD ?_)));(case side2=>exact HC0_1.out);(case side3=>repeat(first|exact(cB HR1_1.out (zB_ HB))|(with_reducible refine cA ?_ _)|(with_reducible refine cN ?_ _)|(with_reducible refine cD ?_)));(case side4=>exact HC1_1.out);rintro e w' ⟨rfl,⟨nd,rfl⟩⟩))
  go_ret
  exact⟨by first|rfl|(simp [*] <;> rfl),zB_ HB⟩
 replace c4:=Bool.eq_false_iff.mpr c4;subst c4
 rw [if_neg (show ¬ (false=true) by decide)] at H
 obtain rfl:=sI H
 go_enter Try.func42,Try.ntmps42
 go_wp2_with (first|((with_reducible refine gD (N:=2) rfl ?_);refine zX (N:=2) (cs := #[.slice A0_0 l0_0.length c0_0,.slice A0_1 l0_1.length c0_1]) (t:=25) ?_;intro gb484 hg w11 hbox hb;have BK484:=A0_ (hbox);have GW484:=zG hg HB;have GE484:=zG hg HB;replace HB:=zB HB hb;clear hb hbox hg)|((with_reducible refine gD (N:=3) rfl ?_);refine zX (N:=3) (cs := #[.slice A1_0 l1_0.length c1_0,.slice A1_1 l1_1.length c1_1]) (t:=25) ?_;intro gb485 hg w12 hbox hb;have BK485:=A0_ (hbox);have GW485:=zG hg HB;have GE485:=zG hg HB;replace HB:=zB HB hb;have NB484_485:=zL hg BK484;have NB485_484:=zM hg BK484;replace BK484:=zK BK484 hb;clear hb hbox hg;have hnb13:=NB484_485.out;have hnc13:=NB485_484.out;have hcz14_0:=zc0 BK484;have hcz14_1:=zc1 BK484;have hfz14_0:=kF BK484.out 0;have hfz14_1:=kF BK484.out 1;have hcz15_0:=zc0 BK485;have hcz15_1:=zc1 BK485;have hfz15_0:=kF BK485.out 0;have hfz15_1:=kF BK485.out 1)|((with_reducible refine gC (f:=38) rfl ?_);refine zJ (some 9) Try.func38 #[.slice A0_0 l0_0.length c0_0,.slice A1_0 l1_0.length c1_0] ?_;(with_reducible refine(laws_sameInts.calls k _ _ l0_0 _ _ l1_0 false _ ?side1 ?side2 ?side3 ?side4 A3.out).mono ?_);(case side1=>exact zC HR0_0 HB);(case side2=>exact HC0_0.out);(case side3=>exact zC HR1_0 HB);(case side4=>exact HC1_0.out);rintro e w' ⟨rfl,⟨nd,rfl⟩⟩;refine⟨_,rfl,?_⟩))
 go_ret
 exact⟨by first|rfl|(simp [*] <;> rfl),zB_ HB⟩

/-! ### slices_Sort_int_int: function 113 -/
def lays189_ren:Go.Shelf.Ren:=⟨fun|189=>113|125=>118|257=>117|128=>129|129=>130|294=>120|295=>121|296=>122|297=>123|298=>124|299=>125|216=>126|300=>127|301=>128|328=>131|329=>132|330=>133|331=>134|332=>135|215=>119|343=>136|n=>n,fun|28=>23|3=>3|46=>90|0=>0|51=>102|53=>104|4=>4|183=>94|182=>93|131=>99|5=>5|9=>9|218=>105|222=>109|228=>111|229=>112|n=>n,fun|n=>n⟩
theorem lays189:Go.Proofs.Lays.n189 Try.prog lays189_ren := {
  mixed:=by kernel_rfl
  f125:=Try.func118.trans (congrArg some (by kernel_rfl))
  f128:=Try.func129.trans (congrArg some (by kernel_rfl))
  f129:=Try.func130.trans (congrArg some (by kernel_rfl))
  f189:=Try.func113.trans (congrArg some (by kernel_rfl))
  f215:=Try.func119.trans (congrArg some (by kernel_rfl))
  f216:=Try.func126.trans (congrArg some (by kernel_rfl))
  f257:=Try.func117.trans (congrArg some (by kernel_rfl))
  f294:=Try.func120.trans (congrArg some (by kernel_rfl))
  f295:=Try.func121.trans (congrArg some (by kernel_rfl))
  f296:=Try.func122.trans (congrArg some (by kernel_rfl))
  f297:=Try.func123.trans (congrArg some (by kernel_rfl))
  f298:=Try.func124.trans (congrArg some (by kernel_rfl))
  f299:=Try.func125.trans (congrArg some (by kernel_rfl))
  f300:=Try.func127.trans (congrArg some (by kernel_rfl))
  f301:=Try.func128.trans (congrArg some (by kernel_rfl))
  f328:=Try.func131.trans (congrArg some (by kernel_rfl))
  f329:=Try.func132.trans (congrArg some (by kernel_rfl))
  f330:=Try.func133.trans (congrArg some (by kernel_rfl))
  f331:=Try.func134.trans (congrArg some (by kernel_rfl))
  f332:=Try.func135.trans (congrArg some (by kernel_rfl))
  f343:=Try.func136.trans (congrArg some (by kernel_rfl))
  t0:=Try.underlying0
  a0:=Try.isAgg0
  z0:=Try.sizeOf0
  v0:=Try.zeroValue0
  t3:=Try.underlying3
  a3:=Try.isAgg3
  z3:=Try.sizeOf3
  v3:=Try.zeroValue3
  t4:=Try.underlying4
  a4:=Try.isAgg4
  z4:=Try.sizeOf4
  v4:=Try.zeroValue4
  t5:=Try.underlying5
  a5:=Try.isAgg5
  z5:=Try.sizeOf5
  v5:=Try.zeroValue5
  t9:=Try.underlying9
  a9:=Try.isAgg9
  z9:=Try.sizeOf9
  v9:=Try.zeroValue9
  t28:=Try.underlying23
  a28:=Try.isAgg23
  z28:=Try.sizeOf23
  v28:=Try.zeroValue23
  t46:=Try.underlying90
  a46:=Try.isAgg90
  z46:=Try.sizeOf90
  v46:=Try.zeroValue90
  t51:=Try.underlying102
  a51:=Try.isAgg102
  z51:=Try.sizeOf102
  v51:=Try.zeroValue102
  t53:=Try.underlying104
  a53:=Try.isAgg104
  z53:=Try.sizeOf104
  v53:=Try.zeroValue104
  t131:=Try.underlying99
  a131:=Try.isAgg99
  z131:=Try.sizeOf99
  v131:=Try.zeroValue99
  t182:=Try.underlying93
  a182:=Try.isAgg93
  z182:=Try.sizeOf93
  v182:=Try.zeroValue93
  t183:=Try.underlying94
  a183:=Try.isAgg94
  z183:=Try.sizeOf94
  v183:=Try.zeroValue94
  t218:=Try.underlying105
  a218:=Try.isAgg105
  z218:=Try.sizeOf105
  v218:=Try.zeroValue105
  t222:=Try.underlying109
  a222:=Try.isAgg109
  z222:=Try.sizeOf109
  v222:=Try.zeroValue109
  t228:=Try.underlying111
  a228:=Try.isAgg111
  z228:=Try.sizeOf111
  v228:=Try.zeroValue111
  t229:=Try.underlying112
  a229:=Try.isAgg112
  z229:=Try.sizeOf112
  v229:=Try.zeroValue112 }
open Go.Sort Go.RowKit in
theorem sortLaid (blk off cap:Nat) (zs:List Int) (w:World) (hH:Holds (Value.int .i64) w blk off zs.toArray) (hblk:blk<w.heap.size) (hsz:zs.length<4611686018427387904) :
    Calls Try.prog 113 #[.slice (some ⟨blk,off,none⟩) zs.length cap] w fun e w' =>
      e = .returned (.tuple #[]) ∧ ∃ n os,w'=grow (putRow (Value.int .i64) (Sort.ahead w n) blk off (zs.mergeSort fun x y=>decide (x≤y)).toArray) os:=Any.slices_Sort_int lays189 blk off cap zs w hH hblk hsz
open Go.RowKit Go.Sort in
theorem sortLaid0 (p:Option Addr) (cap:Nat) (w:World) :
    Calls Try.prog 113 #[.slice p 0 cap] w fun e w'=>e = .returned (.tuple #[])∧w'=w:=Any.slices_Sort_int_none lays189 p cap w
def slices_Sort_int_int.f (l0:List Int):Option (List Int):=if l0.length≤1048576 then some (l0.mergeSort fun x y=>decide (x≤y)) else none
theorem slices_Sort_int_int.calls (P0_:Nat→Prop) (u9000_:Value) (l0:List Int) (r1:List Int) (w0 w:World) (hB:Below w0.heap.size w0 w) (ho0:Kd.R (Kd.int .i64) 3 w w0.heap.size P0_ u9000_ l0) (h:slices_Sort_int_int.f l0=some r1) :
    Calls Try.prog 113 #[u9000_] w fun e w'=>e = .returned (.tuple #[])∧Kd.R (Kd.int .i64) 3 w' w0.heap.size (fun k_=>(P0_ k_∨w.heap.size≤k_)) u9000_ r1∧Below w0.heap.size w0 w'∧Kept w w' (fun k_=>P0_ k_):=by
  unfold slices_Sort_int_int.f at h
  by_cases hl:l0.length≤1048576
  · rw [if_pos hl] at h
    obtain rfl:=sI h;have hp:=ho0.1;have ho:=Kd.own_of_R ho0
    rcases ho.2 with⟨rfl,hz⟩|⟨g,cap,cur,rfl,hg,hb,h1,h2,h3,h4⟩
    · obtain rfl:=List.length_eq_zero_iff.1 hz
      refine(sortLaid0 none 0 w).mono ?_
      rintro e w' ⟨rfl,rfl⟩
      exact⟨rfl,by rw [List.mergeSort_nil];exact Kd.R_nil _ _ _ _ _,hB,Kept.refl _ _⟩
    have hlt:g<w.heap.size:=(Array.getElem?_eq_some_iff.1 hb).1
    have hH:=Go.holds_of_blockI hb (by simpa [encs] using h4)
    refine(sortLaid g 0 cap l0 w hH hlt (by omega)).mono ?_
    rintro e w' ⟨rfl,q,os,rfl⟩
    have hg2:=Go.grownBy_sortedI (w:=w) (g:=g) (n:=q) (os:=os) (l0.mergeSort fun x y=>decide (x≤y)).toArray
    have ho2:=Go.ownsRow_sortedI (n:=q) (os:=os) (ts:=l0.mergeSort fun x y=>decide (x≤y)) (by simp) hg hb h1 h2 h3
    refine⟨rfl,Kd.R_of_own (by simpa [encs] using ho2) (fun k hk => .inl (hp k hk)),hB.grown hg2 hB.size (fun k hk=>by cases hk;exact hg),Kept.of_grown (S:=fun k_=>P0_ k_) hg2 (Kept.refl _ _) (fun k hk => .inl (hp k (by cases hk;rfl)))⟩
  rw [if_neg hl] at h;cases h


/-! ### slices_Reverse_int_int: function 114 -/
def lays112_ren:Go.Shelf.Ren:=⟨fun|112=>114|n=>n,fun|28=>23|3=>3|4=>4|0=>0|n=>n,fun|n=>n⟩
theorem lays112:Go.Proofs.Lays.n112 Try.prog lays112_ren := {
  mixed:=by kernel_rfl
  f112:=Try.func114.trans (congrArg some (by kernel_rfl))
  t0:=Try.underlying0
  a0:=Try.isAgg0
  z0:=Try.sizeOf0
  v0:=Try.zeroValue0
  t3:=Try.underlying3
  a3:=Try.isAgg3
  z3:=Try.sizeOf3
  v3:=Try.zeroValue3
  t4:=Try.underlying4
  a4:=Try.isAgg4
  z4:=Try.sizeOf4
  v4:=Try.zeroValue4
  t28:=Try.underlying23
  a28:=Try.isAgg23
  z28:=Try.sizeOf23
  v28:=Try.zeroValue23 }
open Go.RowKit Go.Lib Go.Sort in
theorem revLaid (blk off cap:Nat) (zs:List Int) (w:World) (hH:Holds (Value.int .i64) w blk off zs.toArray) (hsz:zs.length≤9223372036854775807) :
    Calls Try.prog 114 #[.slice (some ⟨blk,off,none⟩) zs.length cap] w fun e w'=>e = .returned (.tuple #[]) ∧ ∃ n,w'=putRow (Value.int .i64) (Sort.ahead w n) blk off zs.reverse.toArray:=Any.slices_Reverse_int lays112 blk off cap zs w hH hsz
open Go.RowKit Go.Lib Go.Sort in
theorem revLaid0 (a:Option Addr) (cap:Nat) (w:World) :
    Calls Try.prog 114 #[.slice a 0 cap] w fun e w'=>e = .returned (.tuple #[])∧w'=w:=Any.slices_Reverse_int_empty lays112 a cap w
def slices_Reverse_int_int.f (l0:List Int):Option (List Int):=if l0.length≤1048576 then some (l0.reverse) else none
theorem slices_Reverse_int_int.calls (P0_:Nat→Prop) (u9000_:Value) (l0:List Int) (r1:List Int) (w0 w:World) (hB:Below w0.heap.size w0 w) (ho0:Kd.R (Kd.int .i64) 3 w w0.heap.size P0_ u9000_ l0) (h:slices_Reverse_int_int.f l0=some r1) :
    Calls Try.prog 114 #[u9000_] w fun e w'=>e = .returned (.tuple #[])∧Kd.R (Kd.int .i64) 3 w' w0.heap.size (fun k_=>(P0_ k_∨w.heap.size≤k_)) u9000_ r1∧Below w0.heap.size w0 w'∧Kept w w' (fun k_=>P0_ k_):=by
  unfold slices_Reverse_int_int.f at h
  by_cases hl:l0.length≤1048576
  · rw [if_pos hl] at h
    obtain rfl:=sI h;have hp:=ho0.1;have ho:=Kd.own_of_R ho0
    rcases ho.2 with⟨rfl,hz⟩|⟨g,cap,cur,rfl,hg,hb,h1,h2,h3,h4⟩
    · obtain rfl:=List.length_eq_zero_iff.1 hz
      refine(revLaid0 none 0 w).mono ?_
      rintro e w' ⟨rfl,rfl⟩
      exact⟨rfl,by exact Kd.R_nil _ _ _ _ _,hB,Kept.refl _ _⟩
    have hlt:g<w.heap.size:=(Array.getElem?_eq_some_iff.1 hb).1
    have hH:=Go.holds_of_blockI hb (by simpa [encs] using h4)
    refine(revLaid g 0 cap l0 w hH (by omega)).mono ?_
    rintro e w' ⟨rfl,q,hw⟩
    obtain⟨os,hos⟩ : ∃ os:Array Obj,os = #[]:=⟨_,rfl⟩
    obtain rfl:w'=Go.Sort.grow (Go.Sort.putRow (Value.int .i64) (Go.Sort.ahead w q) g 0 l0.reverse.toArray) os:=by rw [hw,hos];unfold Go.Sort.grow;rw [Array.append_empty]
    clear hw
    have hg2:=Go.grownBy_sortedI (w:=w) (g:=g) (n:=q) (os:=os) (l0.reverse).toArray
    have ho2:=Go.ownsRow_sortedI (n:=q) (os:=os) (ts:=l0.reverse) (by simp) hg hb h1 h2 h3
    refine⟨rfl,Kd.R_of_own (by simpa [encs] using ho2) (fun k hk => .inl (hp k hk)),hB.grown hg2 hB.size (fun k hk=>by cases hk;exact hg),Kept.of_grown (S:=fun k_=>P0_ k_) hg2 (Kept.refl _ _) (fun k hk => .inl (hp k (by cases hk;rfl)))⟩
  rw [if_neg hl] at h;cases h


/-! ### impl_typeOf: function 98 -/
def impl_typeOf.l0:Nat→List Int→List (List Int)→Int→Int→Option (List Int)
  | 0,_,_,_,_=>none
  | k+1,x3,x8,x9,x10=>if x10<x9 then (if 0≤x10 then (if x10<(x8.length:Int) then (if x3.length<17592186044416 then (impl_typeOf.l0 k (x3 ++ [((rd_L1 x8 x10).length:Int)]) x8 x9 (wrap64 (x10+1))) else (none)) else (none)) else (none)) else ((slices_Sort_int_int.f x3).bind fun t498=>((slices_Reverse_int_int.f t498).bind fun t499=>(some t499)))
def impl_typeOf.f (k:Nat) (l0:List Int):Option (List Int):=(impl_cyclesOf.f k l0).bind fun t491=>(impl_typeOf.l0 k (([]:List Int)) t491 (t491.length:Int) 0)
set_option maxHeartbeats 8000000 in
set_option maxRecDepth 100000 in
theorem impl_typeOf.calls (k:Nat) (A0:Option Addr) (c0:Nat) (l0:List Int) (r:List Int) (w:World) (hr0:Kd.C (Kd.int .i64) w A0 l0.length l0) (hc0:l0.length≤c0) (h:impl_typeOf.f k l0=some r) :
    Calls Try.prog 98 #[.slice A0 l0.length c0] w fun e w' => ∃ v0_:Value,e = .returned (v0_)∧Kd.R (Kd.int .i64) 3 w' w.heap.size (fun _=>True) v0_ r∧Below w.heap.size w w':=by
 have HR0:=A0_ hr0;have HC0:=A0_ hc0;clear hr0 hc0
 have HB:=A0_ (Below.refl w.heap.size w)
 have H:((impl_cyclesOf.f k l0).bind fun t491=>(impl_typeOf.l0 k (([]:List Int)) t491 (t491.length:Int) 0))=some r:=h
 clear h
 obtain⟨y488,hy488⟩ : ∃ y_:List Int,y_=(([]:List Int)):=⟨_,rfl⟩
 replace H:((impl_cyclesOf.f k l0).bind fun t491=>(impl_typeOf.l0 k y488 t491 (t491.length:Int) 0))=some r:=zH hy488 H
 have Ny488:=A0_ hy488;clear hy488;obtain⟨t491,A2,H⟩:=zbind H;have H':=A0_ H;clear H
 go_enter Try.func98,Try.ntmps98
 go_wp2_with (first|((with_reducible refine gD (N:=6) rfl ?_);refine Kd.R_lit (Kd.int .i64) _ 3 ?hg (N:=6) ?hd (xs:=([]:List Int)) (inner := []) (ok:=fun _=>True) (okp:=fun _=>True) ?hr ?hp (fun _ hk=>hk) trivial (Below.refl _ _) (Nat.le_refl _) (by simp) ?_;(case hd=>rfl);(case hg=>rfl);(case hr=>first|(go_simp;done)|(go_simp;rfl));(case hp=>exact(Reps.none _ _));intro v489 w3 ho4 hb hg_ hnew_;clear hg_ hnew_;(first|rw [← Ny488.out] at ho4|(simp only [Int.reduceToNat] at ho4;rw [← Ny488.out] at ho4));have HO490:=A0_ (rL ho4 (bZ (zB_ HB)));replace HB:=zB HB hb;clear hb ho4)|((with_reducible refine gC (f:=68) rfl ?_);refine zJ (some 8) Try.func68 #[.slice A0 l0.length c0] ?_;(with_reducible refine(impl_cyclesOf.calls k _ _ l0 t491 _ ?side1 ?side2 A2.out).mono ?_);(case side1=>exact zC HR0 HB);(case side2=>exact HC0.out);rintro e w5 ⟨v492,rfl,ho0,hb⟩;refine⟨_,rfl,?_⟩;have HO493:=A0_ (Kd.S_lower (Kd.S_new' ho0 (rX (zR_ HO490))) (bZ (zB_ HB)));replace HO490:=zR HO490 hb;replace HB:=zB HB hb;(try clear hb);(try clear ho0);obtain⟨Ao6,co6,eo6⟩:=Kd.S_slice HO493.out;subst eo6))
 go_loopg [3,10] k (fun kq v3 v10 w' => ∃ (x3_1:List Int) (x10_1:Int),v10 = .int .i64 x10_1∧Aside0 (impl_typeOf.l0 kq x3_1 t491 (t491.length:Int) x10_1=some r)∧Aside0 (kq≤k)∧Aside0 (Kd.R (Kd.int .i64) 3 w' w.heap.size (fun _=>True) v3 x3_1)∧Aside0 (Kd.S (Kd.slice 3 (Kd.int .i64)) 23 w' w.heap.size (fun k_=>some k_≠(v3:Value).ownBlock) (.slice Ao6 t491.length co6) t491)∧Aside0 (Below w.heap.size w w'))
 case atStart=>exact⟨(y488),(0),zt,H',⟨Nat.le_refl _⟩,⟨zR_ HO490⟩,⟨zmS HO493 (fun _ hk=>hk.2)⟩,⟨zB_ HB⟩⟩
 case round =>
  clear H';(try clear p2);(try clear c6);obtain⟨x3_1,x10_1,rfl,HA,HK1,HO_3,HO_8,HB⟩:=hrel
  cases gk with
  | zero=>exact absurd HA.out (by simp [impl_typeOf.l0])
  | succ k1 =>
   have H:=HA.out;clear HA;simp only [impl_typeOf.l0] at H
   by_cases c7:x10_1<(t491.length:Int)
   ·rw [if_pos c7] at H
    have c7b0:=dT c7;clear c7
    have c8:=zpc H;replace H:=zph H
    have c8b0:=dT c8;clear c8
    have c9:=zpc H;replace H:=zph H
    have c9b0:=dT c9;clear c9
    have c10:=zpc H;replace H:=zph H
    have LMc10:=A0_ c10;clear c10
    obtain⟨y495,hy495⟩ : ∃ y_:List Int,y_=(x3_1 ++ [((rd_L1 t491 x10_1).length:Int)]):=⟨_,rfl⟩
    replace H:(impl_typeOf.l0 k1 y495 t491 (t491.length:Int) (wrap64 (x10_1+1)))=some r:=zH hy495 H
    have Ny495:=A0_ hy495;clear hy495;have H':=A0_ H;clear H
    have p494:0≤(x10_1:Int):=zd
    have q494:x10_1<(t491.length:Int):=zd
    obtain⟨ad494,A494_0,c494_0,e494,hx494_0,hl494_0,hi494_0⟩:=at_L1 (Kd.S_reads' HO_8.out).2.2 x10_1 p494 q494
    cases e494
    obtain⟨ce494,hce494,hMe494,hcc494⟩:=Kd.S_get HO_8.out [] x10_1 p494 (by first|exact q494|exact zd|(have e_:=(Kd.S_reads' HO_8.out).1;omega))
    obtain⟨ve494_0,rfl,ge494_0⟩:=hMe494;have hv494_0:=hcc494 0 _ rfl
    rw [Nat.add_zero,show((Kd.slice 3 (Kd.int .i64))).sz=1 from rfl,Nat.mul_one] at hv494_0
    replace hv494_0:=sI (hv494_0.symm.trans hx494_0)
    rw [hv494_0] at ge494_0
    have HL494_0:=A0_ (show Kd.R (Kd.int .i64) 3 _ _ _ _ (rd_L1 t491 x10_1) from ge494_0)
    clear hv494_0 ge494_0 hcc494 hce494;have HR494_0:=A0_ hi494_0;have HC494_0:=A0_ hl494_0;clear hi494_0 hl494_0;replace p494:=eq_true p494;replace q494:=eq_true q494
    go_wp2_with (first|((with_reducible refine gB (b := .append) (xs := #[.tmp 14,.tmp 17]) rfl ?_);at_builtin;refine Kd.R_append (Kd.int .i64) (w0:=w) w.heap.size rfl (.tmp 14) (.tmp 17) 23 3 (.int .i64 0) 8 rfl Try.underlying23 info3 rfl (by decide) (by omega) u3 x3_1 ((rd_L1 t491 x10_1).length:Int) [.int .i64 ((rd_L1 t491 x10_1).length:Int)] (fun _=>True) (fun _=>False) rfl rfl ?aP (fun _ hk=>hk.elim) ?aF ?aO ?aB ?aS ?aL ?_;(case aP=>exact rfl);(case aB=>exact(zB_ HB));(case aF=>exact(fun _ _=>trivial));(case aO=>exact(zR_ HO_3));(case aS=>exact(bZ (zB_ HB)));(case aL=>have:=LMc10.out;omega);intro v496 w11 ho hb hg hat;rw [← Ny495.out] at ho;replace HO_8:=A0_ (Kd.S_after (ok:=(fun _=>True)) (zmS HO_8 (fun _ hk=>⟨trivial,hk⟩)) hg hat);replace HL494_0:=A0_ (Kd.R_after (ok:=(fun k_=>some k_≠(.slice (some ad494) t491.length co6:Value).ownBlock)) (zmR HL494_0 (fun _ hk=>⟨hk.2,hk.1⟩)) hg hat);replace HB:=A0_ (hb);have HO497:=A0_ (ho);clear HO_3 ho hb hg hat))
    go_roundg k1
    case measure=>have:=HK1.out;omega
    case rel=>exact⟨(y495),(wrap64 (x10_1+1)),zt,H',⟨by have:=HK1.out;omega⟩,⟨zR_ HO497⟩,⟨zmS HO_8 (fun _ hk=>hk.2)⟩,⟨zB_ HB⟩⟩
   rw [if_neg c7] at H;have c7b0:=dF c7;clear c7;obtain⟨t498,A12,H⟩:=zbind H;obtain⟨t499,A13,H⟩:=zbind H;obtain rfl:=sI H;obtain⟨Ao14,co14,eo14⟩:=rS HO_3.out;subst eo14
   go_wp2_with (first|((with_reducible refine gC (f:=113) rfl ?_);refine zJ (some 21) Try.func113 #[.slice Ao14 x3_1.length co14] ?_;(with_reducible refine(slices_Sort_int_int.calls (fun k_=>some k_=(.slice Ao14 x3_1.length co14:Value).ownBlock) (.slice Ao14 x3_1.length co14) x3_1 t498 w _ ?side1 ?side2 A12.out).mono ?_);(case side1=>repeat(first|(with_reducible first|exact HB.out|apply bA|apply bN|apply bD)|exact HB.out));(case side2=>exact Kd.R_tight rfl HO_3.out);rintro e w15 ⟨rfl,hy0,hb,hkp⟩;refine⟨_,rfl,?_⟩;replace HO_3:=A0_ (Kd.R_reok rfl hy0 (fun k_ e_=>HO_3.out.1 k_ e_));replace HO_8:=A0_ (sM (ok':=fun k_=>some k_≠(.slice Ao14 x3_1.length co14:Value).ownBlock) (Kd.S_keptB (HO_8.out) hkp (fun k_ hk_ hs_=>(hk_) hs_)) (fun k_ hk_=>hk_.1));replace HB:=A0_ (hb);(try clear hb);(try clear hkp);(try clear hy0))|((with_reducible refine gC (f:=114) rfl ?_);refine zJ (some 23) Try.func114 #[.slice Ao14 x3_1.length co14] ?_;(with_reducible refine(slices_Reverse_int_int.calls (fun k_=>some k_=(.slice Ao14 x3_1.length co14:Value).ownBlock) (.slice Ao14 x3_1.length co14) t498 t499 w _ ?side1 ?side2 A13.out).mono ?_);(case side1=>repeat(first|(with_reducible first|exact HB.out|apply bA|apply bN|apply bD)|exact HB.out));(case side2=>exact Kd.R_tight rfl HO_3.out);rintro e w16 ⟨rfl,hy0,hb,hkp⟩;refine⟨_,rfl,?_⟩;replace HO_3:=A0_ (Kd.R_reok rfl hy0 (fun k_ e_=>HO_3.out.1 k_ e_));replace HO_8:=A0_ (sM (ok':=fun k_=>some k_≠(.slice Ao14 x3_1.length co14:Value).ownBlock) (Kd.S_keptB (HO_8.out) hkp (fun k_ hk_ hs_=>(hk_) hs_)) (fun k_ hk_=>hk_.1));replace HB:=A0_ (hb);(try clear hb);(try clear hkp);(try clear hy0)))
   go_ret
   exact⟨_,by first|rfl|(simp [*] <;> rfl),zR_ HO_3,zB_ HB⟩

/-! ### impl_MapDegrees: function 43 -/
def impl_MapDegrees.f (k:Nat) (l0_0:List Int) (l0_1:List Int):Option (List Int×Bool):=(impl_MapValid.f k l0_0 l0_1).bind fun t501=>(if t501=true then ((impl_typeOf.f k l0_0).bind fun t502=>(some (t502,true))) else (some (([]:List Int),false)))
set_option maxHeartbeats 8000000 in
set_option maxRecDepth 100000 in
theorem impl_MapDegrees.calls (k:Nat) (A0_0:Option Addr) (c0_0:Nat) (l0_0:List Int) (A0_1:Option Addr) (c0_1:Nat) (l0_1:List Int) (r1:List Int) (r2:Bool) (w:World) (hr0_0:Kd.C (Kd.int .i64) w A0_0 l0_0.length l0_0) (hc0_0:l0_0.length≤c0_0) (hr0_1:Kd.C (Kd.int .i64) w A0_1 l0_1.length l0_1) (hc0_1:l0_1.length≤c0_1) (h:impl_MapDegrees.f k l0_0 l0_1=some (r1,r2)) :
    Calls Try.prog 43 #[.agg #[.slice A0_0 l0_0.length c0_0,.slice A0_1 l0_1.length c0_1]] w fun e w' => ∃ v0_:Value,e = .returned (.tuple #[v0_,.bool r2])∧Kd.R (Kd.int .i64) 3 w' w.heap.size (fun _=>True) v0_ r1∧Below w.heap.size w w':=by
 have hu25:=Try.underlying25;have HR0_0:=A0_ hr0_0;have HC0_0:=A0_ hc0_0;clear hr0_0 hc0_0;have HR0_1:=A0_ hr0_1;have HC0_1:=A0_ hc0_1;clear hr0_1 hc0_1
 have HB:=A0_ (Below.refl w.heap.size w)
 have H:((impl_MapValid.f k l0_0 l0_1).bind fun t501=>(if t501=true then ((impl_typeOf.f k l0_0).bind fun t502=>(some (t502,true))) else (some (([]:List Int),false))))=some (r1,r2):=h
 clear h;obtain⟨t501,A2,H⟩:=zbind H
 by_cases c3:t501=true
 ·subst c3
  have H1:((impl_typeOf.f k l0_0).bind fun t502=>(some (t502,true)))=some (r1,r2):=by rw [if_pos rfl] at H;exact H
  clear H;have H:=H1;clear H1;obtain⟨t502,A4,H⟩:=zbind H;simp only [Option.some.injEq,Prod.mk.injEq] at H;obtain⟨rfl,rfl⟩:=H
  go_enter Try.func43,Try.ntmps43
  go_wp2_with (first|((with_reducible refine gD (N:=1) rfl ?_);refine zX (N:=1) (cs := #[.slice A0_0 l0_0.length c0_0,.slice A0_1 l0_1.length c0_1]) (t:=25) ?_;intro gb500 hg w5 hbox hb;have BK500:=A0_ (hbox);have GW500:=zG hg HB;have GE500:=zG hg HB;replace HB:=zB HB hb;clear hb hbox hg;have hcz6_0:=zc0 BK500;have hcz6_1:=zc1 BK500;have hfz6_0:=kF BK500.out 0;have hfz6_1:=kF BK500.out 1)|((with_reducible refine gC (f:=54) rfl ?_);refine zJ (some 5) Try.func54 #[.agg #[.slice A0_0 l0_0.length c0_0,.slice A0_1 l0_1.length c0_1]] ?_;(with_reducible refine(impl_MapValid.calls k (fun k_=>k_<w.heap.size) _ _ l0_0 (fun k_=>k_<w.heap.size) _ _ l0_1 true _ ?side1 ?side2 A2.out).mono ?_);(case side1=>exact Kd.V_mk HC0_0.out (Kd.F_below (Kd.C_F (Kd.heap_int .i64) HR0_0.out) (zB_ HB)));(case side2=>exact Kd.V_mk HC0_1.out (Kd.F_below (Kd.C_F (Kd.heap_int .i64) HR0_1.out) (zB_ HB)));rintro e w7 ⟨rfl,hb⟩;refine⟨_,rfl,?_⟩;replace BK500:=zK BK500 hb;replace HB:=zB HB hb;(try clear hb);have hcz8_0:=zc0 BK500;have hcz8_1:=zc1 BK500;have hfz8_0:=kF BK500.out 0;have hfz8_1:=kF BK500.out 1)|((with_reducible refine gC (f:=98) rfl ?_);refine zJ (some 9) Try.func98 #[.slice A0_0 l0_0.length c0_0] ?_;(with_reducible refine(impl_typeOf.calls k _ _ l0_0 t502 _ ?side1 ?side2 A4.out).mono ?_);(case side1=>exact zC HR0_0 HB);(case side2=>exact HC0_0.out);rintro e w9 ⟨v503,rfl,ho0,hb⟩;refine⟨_,rfl,?_⟩;have HO504:=A0_ (rL ho0 (bZ (zB_ HB)));replace BK500:=zK BK500 hb;replace HB:=zB HB hb;(try clear hb);(try clear ho0)))
  go_ret2
  exact⟨_,by first|rfl|(simp [*] <;> rfl),zR_ HO504,zB_ HB⟩
 replace c3:=Bool.eq_false_iff.mpr c3;subst c3
 have H1:(some (([]:List Int),false))=some (r1,r2):=by rw [if_neg (show ¬ (false=true) by decide)] at H;exact H
 clear H;have H:=H1;clear H1;simp only [Option.some.injEq,Prod.mk.injEq] at H;obtain⟨rfl,rfl⟩:=H
 go_enter Try.func43,Try.ntmps43
 go_wp2_with (first|((with_reducible refine gD (N:=1) rfl ?_);refine zX (N:=1) (cs := #[.slice A0_0 l0_0.length c0_0,.slice A0_1 l0_1.length c0_1]) (t:=25) ?_;intro gb500 hg w10 hbox hb;have BK500:=A0_ (hbox);have GW500:=zG hg HB;have GE500:=zG hg HB;replace HB:=zB HB hb;clear hb hbox hg;have hcz11_0:=zc0 BK500;have hcz11_1:=zc1 BK500;have hfz11_0:=kF BK500.out 0;have hfz11_1:=kF BK500.out 1)|((with_reducible refine gC (f:=54) rfl ?_);refine zJ (some 5) Try.func54 #[.agg #[.slice A0_0 l0_0.length c0_0,.slice A0_1 l0_1.length c0_1]] ?_;(with_reducible refine(impl_MapValid.calls k (fun k_=>k_<w.heap.size) _ _ l0_0 (fun k_=>k_<w.heap.size) _ _ l0_1 false _ ?side1 ?side2 A2.out).mono ?_);(case side1=>exact Kd.V_mk HC0_0.out (Kd.F_below (Kd.C_F (Kd.heap_int .i64) HR0_0.out) (zB_ HB)));(case side2=>exact Kd.V_mk HC0_1.out (Kd.F_below (Kd.C_F (Kd.heap_int .i64) HR0_1.out) (zB_ HB)));rintro e w12 ⟨rfl,hb⟩;refine⟨_,rfl,?_⟩;replace BK500:=zK BK500 hb;replace HB:=zB HB hb;(try clear hb)))
 go_ret2
 exact⟨_,by first|rfl|(simp [*] <;> rfl),by first|exact Kd.R_nil _ _ _ _ _|exact Kd.N_nil _ _ _ _ _|exact Kd.V_nil _ _ _ _ _|exact Kd.Q_nil _ _ _ _ _|exact Kd.S_nil _ _ _ _ _,zB_ HB⟩

end Go.Proofs.Ytmegggomhjgehaa.PFnCover
