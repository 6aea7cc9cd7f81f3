import Derived.Test.YtmegggomhjgehaaPFnCoverConjx9
namespace Go.Proofs.Ytmegggomhjgehaa.PFnCoverConj
open Go.RowKit Go.Proofs.YtmegggomhjgehaaW.PrintWords Go.Proofs.YtmegggomhjgehaaW.PrintLast Go.Proofs.YtmegggomhjgehaaW.PrintMore
set_option maxHeartbeats 8000000
set_option maxRecDepth 100000
attribute [local go_sem] max2_int min2_int max_two min_two max_three min_three max_four min_four
def s19_.f (l0:List Int):Option (List Int×Int):=if (l0.length:Int)>2000 then (if 2000≤(l0.length:Int) then (some (l0.take 2000,0)) else (none)) else (some (l0,0))
theorem s19_.calls (A0:Option Addr) (c0:Nat) (l0:List Int) (r1:List Int) (r2:Int) (w0 w:World) (hB:Below w0.heap.size w0 w) (al:Kd.C (Kd.int .u8) w0 A0 l0.length l0) (am:l0.length≤c0) (h:s19_.f l0=some (r1,r2)) :
    Calls Try.prog 52 #[.slice A0 l0.length c0] w fun e w' => ∃ g_:Nat,e = .returned (.pointer (some ⟨g_,0,none⟩))∧IsS82 w0 w' g_ r1 r2∧Below w0.heap.size w0 w'∧Below w.heap.size w w':=by
 have au:=Try.underlying82;have an:=A0_ al;have aq:=A0_ am;clear al am
 have HBW:=A0_ (Below.refl w.heap.size w)
 have HW0:=A0_ hB.size;have HB:=A0_ hB;clear hB
 have H:(if (l0.length:Int)>2000 then (if 2000≤(l0.length:Int) then (some (l0.take 2000,0)) else (none)) else (some (l0,0)))=some (r1,r2):=h
 clear h
 by_cases c2:(l0.length:Int)>2000
 ·rw [if_pos c2] at H
  have ao:decide (2000<(l0.length:Int))=true:=dT c2
  have ap:decide (2000<l0.length)=true:=dT (by omega)
  clear c2
  have c3:=zpc H;replace H:=zph H
  have av:=eq_true c3;have aw:=dT c3;clear c3;simp only [Option.some.injEq,Prod.mk.injEq] at H;obtain⟨rfl,rfl⟩:=H;obtain⟨i04,ac,_,hsz4,_⟩:=info_parts info5
  obtain⟨hcut4,hA4,hC4⟩:=print_take_of (P:=Try.prog) (Value.int .u8) 0 22 5 .i64 Try.underlying22 ac hsz4 A0 c0 l0 2000 (by omega) (zd) aq.out
  have ae:=A0_ (Kd.C_of_reads (h1:=fun _=>rfl) (hA4 _ (Kd.reads_of_C an.out)))
  have ar:=A0_ hC4;clear hA4 hC4 ac hsz4
  go_enter Try.func52,Try.ntmps52
  go_wp2_with (first|((with_reducible refine gD (N:=10) rfl ?_);refine zX (N:=10) (cs := #[.slice A0 (l0.take 2000).length c0,.int .i64 0]) (t:=82) ?_;intro aa hg w5 hbox hb;replace HB:=zB HB hb;have af:=A0_ (hbox);have ag:=A0_ ((by rw [hg];exact(bZ (by repeat(first|(with_reducible first|exact HBW.out|apply bA|apply bN|apply bD)|exact HBW.out))):w.heap.size≤aa));have ah:=A0_ ((Nat.le_trans HW0.out (by rw [hg];exact(bZ (by repeat(first|(with_reducible first|exact HBW.out|apply bA|apply bN|apply bD)|exact HBW.out))):w.heap.size≤aa):w0.heap.size≤aa));replace HBW:=A0_ (bT HBW.out hb);clear hb hbox hg))
  go_ret
  exact⟨_,rfl,(show IsS82 w0 _ aa (l0.take 2000) 0 from⟨_,_,zK_ af,ah.out,ae.out⟩),zB_ HB,by repeat(first|(with_reducible first|exact HBW.out|apply bA|apply bN|apply bD|refine bS ?_ ag.out)|exact HBW.out)⟩
 rw [if_neg c2] at H
 have ao:decide (2000<(l0.length:Int))=false:=dF c2
 have ap:decide (2000<l0.length)=false:=dF (by omega)
 clear c2;simp only [Option.some.injEq,Prod.mk.injEq] at H;obtain⟨rfl,rfl⟩:=H
 go_enter Try.func52,Try.ntmps52
 go_wp2_with (first|((with_reducible refine gD (N:=10) rfl ?_);refine zX (N:=10) (cs := #[.slice A0 l0.length c0,.int .i64 0]) (t:=82) ?_;intro ab hg w6 hbox hb;replace HB:=zB HB hb;have ai:=A0_ (hbox);have aj:=A0_ ((by rw [hg];exact(bZ (by repeat(first|(with_reducible first|exact HBW.out|apply bA|apply bN|apply bD)|exact HBW.out))):w.heap.size≤ab));have ak:=A0_ ((Nat.le_trans HW0.out (by rw [hg];exact(bZ (by repeat(first|(with_reducible first|exact HBW.out|apply bA|apply bN|apply bD)|exact HBW.out))):w.heap.size≤ab):w0.heap.size≤ab));replace HBW:=A0_ (bT HBW.out hb);clear hb hbox hg))
 go_ret
 exact⟨_,rfl,(show IsS82 w0 _ ab l0 0 from⟨_,_,zK_ ai,ak.out,an.out⟩),zB_ HB,by repeat(first|(with_reducible first|exact HBW.out|apply bA|apply bN|apply bD|refine bS ?_ aj.out)|exact HBW.out)⟩
def s1e_.j0:Nat→Int→Bool→List Int→Int→Option (Int×Int)
  | 0,_,_,_,_=>none
  | k+1,x1,ag,ab,ac=>if ag=true then ((some (([(-1),x1]:List Int):List Int)).bind fun af=>((s1a_.f k ab ac 2).bind fun aa=>(if 0≤aa.1 then (if aa.1<(af.length:Int) then (some (rd af aa.1,aa.2)) else (none)) else (none)))) else ((s1a_.f k ab ac x1).bind fun ae=>(some (ae.1,ae.2)))
def s1e_.f (k:Nat) (s0_0:List Int) (s0_1:Int) (a1:Int):Option (Int×Int):=if a1=0 then (s1e_.j0 k a1 true s0_0 s0_1) else ((s1a_.f k s0_0 s0_1 20).bind fun aa=>(s1e_.j0 k a1 (aa.1 == 0) s0_0 aa.2))
theorem s1e_.calls (k:Nat) (g:Nat) (s0_0:List Int) (s0_1:Int) (a1:Int) (r1:Int) (r2:Int) (w0 w:World) (hI:IsS82 w0 w g s0_0 s0_1) (hB:Below w0.heap.size w0 w) (h:s1e_.f k s0_0 s0_1 a1=some (r1,r2)) :
    Calls Try.prog 85 #[.pointer (some ⟨g,0,none⟩),.int .i64 a1] w fun e w'=>e = .returned (.int .i64 r1)∧IsS82 w0 w' g s0_0 r2∧Below w0.heap.size w0 w'∧KeepBut w w' g none:=by
 have HI0:=A0_ hI
 have HK:=A0_ (KeepBut.refl w g none)
 have HL:=A0_ hB.size;clear hI;have HW0:=A0_ hB.size;have HB:=A0_ hB;clear hB
 have H:(if a1=0 then (s1e_.j0 k a1 true s0_0 s0_1) else ((s1a_.f k s0_0 s0_1 20).bind fun ap=>(s1e_.j0 k a1 (ap.1 == 0) s0_0 ap.2)))=some (r1,r2):=h
 clear h;have au:=A0_ H;clear H
 go_enter Try.func85,Try.ntmps85
 go_upto_region 1 with(fail)
 go_cut [11] (fun v11 wc => ∃ (kq:Nat) (ag:Bool) (aa:Int),v11 = .bool ag∧Aside0 (s1e_.j0 kq a1 ag s0_0 aa=some (r1,r2))∧Aside0 (kq≤k)∧Aside0 (IsS82 w0 wc g s0_0 aa)∧Aside0 (KeepBut w wc g none)∧Aside0 (Below w0.heap.size w0 wc))
 case first =>
  have H:=au.out;clear au
  by_cases c4:a1=0
  ·rw [if_pos c4] at H
   have ai:(a1 == 0)=true:=beq_iff_eq.mpr c4
   have aA:(a1 != 0)=false:=bne_eq_false_iff_eq.mpr c4
   clear c4
   (first|rw [ai]|(simp only [i64_w,i32_w];rw [ai])|skip)
   have H':=A0_ H;clear H
   go_wp2
   go_meet
   case rel=>exact⟨_,(true),(s0_1),zt,H',zo,⟨zIs HI0⟩,⟨zKp HK⟩,⟨zBw HB⟩⟩
  rw [if_neg c4] at H
  have ai:(a1 == 0)=false:=beq_eq_false_iff_ne.mpr c4
  have aA:(a1 != 0)=true:=bne_iff_ne.mpr c4
  (first|rw [ai]|(simp only [i64_w,i32_w];rw [ai])|skip)
  obtain⟨⟨av,aw⟩,A5,H⟩:=zbind H;dsimp only at H;have H':=A0_ H;clear H
  go_wp2_with (first|(go_at_call 74;(with_reducible refine(s1a_.calls k g s0_0 s0_1 20 av aw w0 _ ?ac ?ae A5.out).mono ?_);(case ac=>repeat(first|(with_reducible first|exact HI0.out|apply IsS82.alloc|apply IsS82.drewN|apply IsS82.drew|apply IsS82.set_1)|exact HI0.out));(case ae=>repeat(first|(with_reducible first|exact HB.out|apply bA|apply bN|apply bD|refine bS ?_ (IsS82.ge HI0.out))|exact HB.out));rintro e w6 ⟨rfl,hi,hb,hk⟩;replace HK:=A0_ (KeepBut.trans (zKp HK) hk (.inl rfl));replace HB:=A0_ (hb);replace HI0:=A0_ (hi);(try clear hb)))
  go_meet
  case rel=>exact⟨_,((av == 0)),(aw),zt,H',zo,⟨zIs HI0⟩,⟨zKp HK⟩,⟨zBw HB⟩⟩
 case rest =>
  clear au;obtain⟨kq,ag,aa,rfl,HA,aT,HI0,HK,HB⟩:=hcut
  cases kq with
  | zero=>exact absurd HA.out (by simp [s1e_.j0])
  | succ am =>
   have H:=HA.out;clear HA;simp only [s1e_.j0] at H
   by_cases c7:ag=true
   ·subst c7
    have H1:((some (([(-1),a1]:List Int):List Int)).bind fun af=>((s1a_.f am s0_0 aa 2).bind fun ab=>(if 0≤ab.1 then (if ab.1<(af.length:Int) then (some (rd af ab.1,ab.2)) else (none)) else (none))))=some (r1,r2):=by rw [if_pos rfl] at H;exact H
    clear H;have H:=H1;clear H1
    obtain⟨af,ak⟩ : ∃ y_:List Int,y_=(([(-1),a1]:List Int)):=⟨_,rfl⟩
    replace H:((s1a_.f am s0_0 aa 2).bind fun ab=>(if 0≤ab.1 then (if ab.1<(af.length:Int) then (some (rd af ab.1,ab.2)) else (none)) else (none)))=some (r1,r2):=zH ak H
    have aq:=A0_ ak;clear ak;obtain⟨⟨al,aC⟩,A8,H⟩:=zbind H;dsimp only at H
    have c9:=zpc H;replace H:=zph H
    have aK:=dT c9;clear c9
    have az:=zpc H;replace H:=zph H
    have aI:=dT az;clear az;simp only [Option.some.injEq,Prod.mk.injEq] at H;obtain⟨rfl,rfl⟩:=H
    go_wp2_with (first|((with_reducible refine gD (N:=13) rfl ?_);refine Kd.R_lit (Kd.int .i64) _ 3 ?hg (N:=13) ?hd (xs:=([(-1),a1]:List Int)) (inner := [.int .i64 (-1),.int .i64 a1]) (ok:=fun _=>True) (okp:=fun _=>True) ?hr ?hp (fun _ hk=>hk) trivial (Below.refl _ _) (Nat.le_refl _) (by simp) ?_;(case hd=>rfl);(case hg=>rfl);(case hr=>first|(go_simp;done)|(go_simp;rfl));(case hp=>exact(Reps.one (show Kd.M (Kd.int .i64) _ _ _ (-1) [.int .i64 (-1)] from rfl) (Reps.one (show Kd.M (Kd.int .i64) _ _ _ a1 [.int .i64 a1] from rfl) (Reps.none _ _))));intro aM w11 aj hb hg_ hnew_;clear hg_ hnew_;(first|rw [← aq.out] at aj|(simp only [Int.reduceToNat] at aj;rw [← aq.out] at aj));have ah:=A0_ (rL aj (keep_size (w:=w) (g:=g) (row:=none) (zKp HK)));replace HK:=A0_ (KeepBut.trans (zKp HK) (KeepBut.of_below hb g none) (.inl rfl));replace HB:=A0_ (bT (zBw HB) hb);replace HI0:=A0_ (IsS82.below (zIs HI0) hb);clear hb aj)|((with_reducible refine gC (f:=74) rfl ?_);refine zJ (some 15) Try.func74 #[.pointer (some ⟨g,0,none⟩),.int .i64 2] ?_;(with_reducible refine(s1a_.calls am g s0_0 aa 2 al aC w0 _ ?ac ?ae A8.out).mono ?_);(case ac=>repeat(first|(with_reducible first|exact HI0.out|apply IsS82.alloc|apply IsS82.drewN|apply IsS82.drew|apply IsS82.set_1)|exact HI0.out));(case ae=>repeat(first|(with_reducible first|exact HB.out|apply bA|apply bN|apply bD|refine bS ?_ (IsS82.ge HI0.out))|exact HB.out));rintro e w13 ⟨rfl,hi,hb,hk⟩;refine⟨_,rfl,?_⟩;replace ah:=A0_ (rM (Kd.R_keep (IsS82.apart (show IsS82 w0 _ g s0_0 aa from zIs HI0) (zR_ ah) (by decide)) hk (fun _ h=>h.2)) (fun _ h=>h.1));replace HK:=A0_ (KeepBut.trans (zKp HK) hk (.inl rfl));replace HB:=A0_ (hb);replace HI0:=A0_ (hi);(try clear hb);obtain⟨aN,aQ,aD⟩:=rS ah.out;subst aD;have an:0≤(al:Int):=zd;have ao:al<(af.length:Int):=zd;obtain⟨aJ,aE,aG⟩:=tI (rR ah.out).2.2 al an ao;cases aE;replace an:=eq_true an;replace ao:=eq_true ao))
    go_ret
    exact⟨by first|rfl|(simp [*] <;> rfl),zIs HI0,zBw HB,zKp HK⟩
   replace c7:=Bool.eq_false_iff.mpr c7;subst c7
   have H1:((s1a_.f am s0_0 aa a1).bind fun ar=>(some (ar.1,ar.2)))=some (r1,r2):=by rw [if_neg (show ¬ (false=true) by decide)] at H;exact H
   clear H;have H:=H1;clear H1;obtain⟨⟨ax,ay⟩,aH,H⟩:=zbind H
   replace H:(some (ax,ay))=some (r1,r2):=H
   simp only [Option.some.injEq,Prod.mk.injEq] at H;obtain⟨rfl,rfl⟩:=H
   go_wp2_with (first|((with_reducible refine gC (f:=74) rfl ?_);refine zJ (some 20) Try.func74 #[.pointer (some ⟨g,0,none⟩),.int .i64 a1] ?_;(with_reducible refine(s1a_.calls am g s0_0 aa a1 ax ay w0 _ ?ac ?ae aH.out).mono ?_);(case ac=>repeat(first|(with_reducible first|exact HI0.out|apply IsS82.alloc|apply IsS82.drewN|apply IsS82.drew|apply IsS82.set_1)|exact HI0.out));(case ae=>repeat(first|(with_reducible first|exact HB.out|apply bA|apply bN|apply bD|refine bS ?_ (IsS82.ge HI0.out))|exact HB.out));rintro e w16 ⟨rfl,hi,hb,hk⟩;refine⟨_,rfl,?_⟩;replace HK:=A0_ (KeepBut.trans (zKp HK) hk (.inl rfl));replace HB:=A0_ (hb);replace HI0:=A0_ (hi);(try clear hb)))
   go_ret
   exact⟨by first|rfl|(simp [*] <;> rfl),zIs HI0,zBw HB,zKp HK⟩
def s1h_.f (k:Nat) (s0_0:List Int) (s0_1:Int) (a1:Int):Option (List Int×Int):=(s1a_.f k s0_0 s0_1 a1).bind fun ae=>((s1g_.f k s0_0 ae.2 (wrap64 (1+ae.1))).bind fun aa=>((s1a_.f k s0_0 aa.2 40).bind fun ab=>(if ab.1=0 then ((some (([(-1),(aa.1.length:Int)]:List Int):List Int)).bind fun af=>((s1a_.f k s0_0 ab.2 2).bind fun ac=>(if 0≤ac.1 then (if ac.1<(af.length:Int) then (if 0<(aa.1.length:Int) then (some ((aa.1.set (0:Int).toNat (rd af ac.1)),ac.2)) else (none)) else (none)) else (none)))) else (if ab.1=1 then (some ((([]:List Int)),ab.2)) else (if ab.1=2 then (if 0<(aa.1.length:Int) then (if aa.1.length<17592186044416 then (some ((aa.1 ++ [rd aa.1 0]),ab.2)) else (none)) else (none)) else (some (aa.1,ab.2)))))))
theorem s1h_.calls (k:Nat) (g:Nat) (s0_0:List Int) (s0_1:Int) (a1:Int) (r1:List Int) (r2:Int) (w0 w:World) (hI:IsS82 w0 w g s0_0 s0_1) (hB:Below w0.heap.size w0 w) (h:s1h_.f k s0_0 s0_1 a1=some (r1,r2)) :
    Calls Try.prog 86 #[.pointer (some ⟨g,0,none⟩),.int .i64 a1] w fun e w' => ∃ v0_:Value,e = .returned (v0_)∧Kd.R (Kd.int .i64) 3 w' w.heap.size (fun _=>True) v0_ r1∧IsS82 w0 w' g s0_0 r2∧Below w0.heap.size w0 w'∧KeepBut w w' g none:=by
 have HI0:=A0_ hI
 have HK:=A0_ (KeepBut.refl w g none)
 have HL:=A0_ hB.size;clear hI;have HW0:=A0_ hB.size;have HB:=A0_ hB;clear hB
 have H:((s1a_.f k s0_0 s0_1 a1).bind fun aQ=>((s1g_.f k s0_0 aQ.2 (wrap64 (1+aQ.1))).bind fun ai=>((s1a_.f k s0_0 ai.2 40).bind fun am=>(if am.1=0 then ((some (([(-1),(ai.1.length:Int)]:List Int):List Int)).bind fun ak=>((s1a_.f k s0_0 am.2 2).bind fun aj=>(if 0≤aj.1 then (if aj.1<(ak.length:Int) then (if 0<(ai.1.length:Int) then (some ((ai.1.set (0:Int).toNat (rd ak aj.1)),aj.2)) else (none)) else (none)) else (none)))) else (if am.1=1 then (some ((([]:List Int)),am.2)) else (if am.1=2 then (if 0<(ai.1.length:Int) then (if ai.1.length<17592186044416 then (some ((ai.1 ++ [rd ai.1 0]),am.2)) else (none)) else (none)) else (some (ai.1,am.2))))))))=some (r1,r2):=h
 clear h;obtain⟨⟨ag,an⟩,A3,H⟩:=zbind H;dsimp only at H;obtain⟨⟨ae,ah⟩,A4,H⟩:=zbind H;dsimp only at H;obtain⟨⟨af,al⟩,A5,H⟩:=zbind H;dsimp only at H
 by_cases c6:af=0
 ·rw [if_pos c6] at H
  have bk:(af == 0)=true:=beq_iff_eq.mpr c6
  have bl:(af != 0)=false:=bne_eq_false_iff_eq.mpr c6
  clear c6
  obtain⟨ak,az⟩ : ∃ y_:List Int,y_=(([(-1),(ae.length:Int)]:List Int)):=⟨_,rfl⟩
  replace H:((s1a_.f k s0_0 al 2).bind fun aj=>(if 0≤aj.1 then (if aj.1<(ak.length:Int) then (if 0<(ae.length:Int) then (some ((ae.set (0:Int).toNat (rd ak aj.1)),aj.2)) else (none)) else (none)) else (none)))=some (r1,r2):=zH az H
  have aT:=A0_ az;clear az;obtain⟨⟨aq,aW⟩,A7,H⟩:=zbind H;dsimp only at H
  have c8:=zpc H;replace H:=zph H
  have bE:=dT c8;clear c8
  have c9:=zpc H;replace H:=zph H
  have bF:=dT c9;clear c9
  have bh:=zpc H;replace H:=zph H
  have bx:=dT bh
  have bz:decide (0<ae.length)=true:=dT (by omega)
  clear bh
  obtain⟨aX,aA⟩ : ∃ y_:List Int,y_=(ae.set (0:Int).toNat (rd ak aq)):=⟨_,rfl⟩
  replace H:(some (aX,aW))=some (r1,r2):=zH aA H
  have a7:=A0_ aA;clear aA;simp only [Option.some.injEq,Prod.mk.injEq] at H;obtain⟨rfl,rfl⟩:=H
  go_enter Try.func86,Try.ntmps86
  go_wp2_with (first|((with_reducible refine gC (f:=74) rfl ?_);refine zJ (some 9) Try.func74 #[.pointer (some ⟨g,0,none⟩),.int .i64 a1] ?_;(with_reducible refine(s1a_.calls k g s0_0 s0_1 a1 ag an w0 _ ?ab ?ac A3.out).mono ?_);(case ab=>repeat(first|(with_reducible first|exact HI0.out|apply IsS82.alloc|apply IsS82.drewN|apply IsS82.drew|apply IsS82.set_1)|exact HI0.out));(case ac=>repeat(first|(with_reducible first|exact HB.out|apply bA|apply bN|apply bD|refine bS ?_ (IsS82.ge HI0.out))|exact HB.out));rintro e w12 ⟨rfl,hi,hb,hk⟩;refine⟨_,rfl,?_⟩;replace HK:=A0_ (KeepBut.trans (zKp HK) hk (.inl rfl));replace HB:=A0_ (hb);replace HI0:=A0_ (hi);(try clear hb))|((with_reducible refine gC (f:=87) rfl ?_);refine zJ (some 11) Try.func87 #[.pointer (some ⟨g,0,none⟩),.int .i64 (wrap64 (1+ag))] ?_;(with_reducible refine(s1g_.calls k g s0_0 an (wrap64 (1+ag)) ae ah w0 _ ?ab ?ac A4.out).mono ?_);(case ab=>repeat(first|(with_reducible first|exact HI0.out|apply IsS82.alloc|apply IsS82.drewN|apply IsS82.drew|apply IsS82.set_1)|exact HI0.out));(case ac=>repeat(first|(with_reducible first|exact HB.out|apply bA|apply bN|apply bD|refine bS ?_ (IsS82.ge HI0.out))|exact HB.out));rintro e w13 ⟨aH,rfl,ao,hi,hb,hk⟩;refine⟨_,rfl,?_⟩;have aa:=A0_ (rL ao (keep_size (w:=w) (g:=g) (row:=none) (zKp HK)));replace HK:=A0_ (KeepBut.trans (zKp HK) hk (.inl rfl));replace HB:=A0_ (hb);replace HI0:=A0_ (hi);(try clear hb);(try clear ao))|((with_reducible refine gC (f:=74) rfl ?_);refine zJ (some 13) Try.func74 #[.pointer (some ⟨g,0,none⟩),.int .i64 40] ?_;(with_reducible refine(s1a_.calls k g s0_0 ah 40 af al w0 _ ?ab ?ac A5.out).mono ?_);(case ab=>repeat(first|(with_reducible first|exact HI0.out|apply IsS82.alloc|apply IsS82.drewN|apply IsS82.drew|apply IsS82.set_1)|exact HI0.out));(case ac=>repeat(first|(with_reducible first|exact HB.out|apply bA|apply bN|apply bD|refine bS ?_ (IsS82.ge HI0.out))|exact HB.out));rintro e w14 ⟨rfl,hi,hb,hk⟩;refine⟨_,rfl,?_⟩;replace aa:=A0_ (rM (Kd.R_keep (IsS82.apart (show IsS82 w0 _ g s0_0 ah from zIs HI0) (zR_ aa) (by decide)) hk (fun _ h=>h.2)) (fun _ h=>h.1));replace HK:=A0_ (KeepBut.trans (zKp HK) hk (.inl rfl));replace HB:=A0_ (hb);replace HI0:=A0_ (hi);(try clear hb);obtain⟨bG,aI,bm⟩:=rS aa.out;subst bm)|((with_reducible refine gD (N:=19) rfl ?_);refine Kd.R_lit (Kd.int .i64) _ 3 ?hg (N:=19) ?hd (xs:=([(-1),(ae.length:Int)]:List Int)) (inner := [.int .i64 (-1),.int .i64 (ae.length:Int)]) (ok:=fun _=>True) (okp:=fun _=>True) ?hr ?hp (fun _ hk=>hk) trivial (Below.refl _ _) (Nat.le_refl _) (by simp) ?_;(case hd=>rfl);(case hg=>rfl);(case hr=>first|(go_simp;done)|(go_simp;rfl));(case hp=>exact(Reps.one (show Kd.M (Kd.int .i64) _ _ _ (-1) [.int .i64 (-1)] from rfl) (Reps.one (show Kd.M (Kd.int .i64) _ _ _ (ae.length:Int) [.int .i64 (ae.length:Int)] from rfl) (Reps.none _ _))));intro bH w16 ar hb hg_ hnew_;clear hg_ hnew_;(first|rw [← aT.out] at ar|(simp only [Int.reduceToNat] at ar;rw [← aT.out] at ar));have ap:=A0_ (rL (Kd.R_new' ar (rX (zR_ aa))) (keep_size (w:=w) (g:=g) (row:=none) (zKp HK)));replace aa:=A0_ (Kd.R_elder' (zR_ aa) (Kd.R_base ar) hb);replace HK:=A0_ (KeepBut.trans (zKp HK) (KeepBut.of_below hb g none) (.inl rfl));replace HB:=A0_ (bT (zBw HB) hb);replace HI0:=A0_ (IsS82.below (zIs HI0) hb);clear hb ar)|((with_reducible refine gC (f:=74) rfl ?_);refine zJ (some 21) Try.func74 #[.pointer (some ⟨g,0,none⟩),.int .i64 2] ?_;(with_reducible refine(s1a_.calls k g s0_0 al 2 aq aW w0 _ ?ab ?ac A7.out).mono ?_);(case ab=>repeat(first|(with_reducible first|exact HI0.out|apply IsS82.alloc|apply IsS82.drewN|apply IsS82.drew|apply IsS82.set_1)|exact HI0.out));(case ac=>repeat(first|(with_reducible first|exact HB.out|apply bA|apply bN|apply bD|refine bS ?_ (IsS82.ge HI0.out))|exact HB.out));rintro e w18 ⟨rfl,hi,hb,hk⟩;refine⟨_,rfl,?_⟩;replace aa:=A0_ (rM (Kd.R_keep (IsS82.apart (show IsS82 w0 _ g s0_0 al from zIs HI0) (zR_ aa) (by decide)) hk (fun _ h=>h.2)) (fun _ h=>h.1));replace ap:=A0_ (rM (Kd.R_keep (IsS82.apart (show IsS82 w0 _ g s0_0 al from zIs HI0) (zR_ ap) (by decide)) hk (fun _ h=>h.2)) (fun _ h=>h.1));replace HK:=A0_ (KeepBut.trans (zKp HK) hk (.inl rfl));replace HB:=A0_ (hb);replace HI0:=A0_ (hi);(try clear hb);obtain⟨bI,aY,bn⟩:=rS ap.out;subst bn;have aJ:0≤(aq:Int):=zd;have aK:aq<(ak.length:Int):=zd;obtain⟨aU,bo,bw⟩:=tI (rR ap.out).2.2 aq aJ aK;cases bo;replace aJ:=eq_true aJ;replace aK:=eq_true aK;have aZ:0≤(0:Int):=(by omega);have a4:(0:Int)<((ae.length:Int):Int):=zd;have qi11:(0<ae.length)=True:=eq_true (by omega);obtain⟨av,bJ,a5,a6,gl11,cl11,HG11⟩:=Kd.R_form aa.out (by omega);(first|cases a5|(injection a5 with ea_ en_ ec_;(first|subst ea_|(injection ea_ with ea_;subst ea_));subst ec_;clear en_));have GB11:=A0_ a6;have GG11:=A0_ HG11;clear a6 gl11 HG11;obtain⟨aE,aG⟩:=Kd.R_celln 0 aa.out (0:Int) aZ a4;(try rw [show((0:Int)).toNat=0 from rfl] at aE);(try simp only [Nat.reduceMul,Nat.zero_mul,Nat.zero_add,Nat.add_zero,Nat.reduceAdd] at aE);(try rw [show((0:Int)).toNat=0 from rfl] at aG);(try simp only [Nat.reduceMul,Nat.zero_mul,Nat.zero_add,Nat.add_zero,Nat.reduceAdd] at aG);replace aZ:=eq_true aZ;replace a4:=eq_true a4;have n_:=A0_ (rM (ok':=(fun k_=>nL k_ (some aU) ak aY)) aa.out (fun k_ hk=>hk.2));clear aa;have aa:=n_;clear n_;obtain⟨hy20_,hz20_⟩:=Kd.R_celln 0 aa.out (0:Int) (by omega) (zd);(try simp only [Int.reduceToNat,Int.toNat_zero,Int.toNat_ofNat,Nat.reduceMul,Nat.zero_mul,Nat.zero_add,Nat.add_zero] at hy20_ hz20_);(try rw [show((0:Int)).toNat=0 from rfl] at hy20_);(try rw [show((0:Int)).toNat=0 from rfl] at hz20_);have HP20:=Kd.R_putg aa.out (0:Int) (rd ak aq))|((with_reducible refine gS (t:=3) (p:=24) rfl ?_);refine store_event (t:=3) (p:=24) (v := ?vo_w21) (w1:=(w18.setCell ⟨av,(0:Int).toNat,none⟩ (.int .i64 (rd ak aq)))) ?hg ?ho ?hn ?hr ?_;(case ho=>rfl);(case hg=>rfl);(case hn=>rfl);(case hr=>first|(go_simp;done)|(go_simp;rfl));intro w21 hw;have hg:w18.grownBy w21 (some av):=(by rw [hw];exact HP20.2);have hp_:Kd.R (Kd.int .i64) 3 w21 w.heap.size (fun k_=>nL k_ (some aU) ak aY) (.slice (some ⟨av,0,none⟩) ae.length aI) aX:=(by rw [hw,a7.out];exact HP20.1);clear HP20;replace HI0:=A0_ (IsS82.grown (zIs HI0) hg (IsS82.own_ne HI0.out aa.out (by decide)));replace ap:=A0_ (Kd.R_after (v:=(.slice (some ⟨av,0,none⟩) ae.length aI)) (v1:=(.slice (some ⟨av,0,none⟩) ae.length aI)) (ok:=(fun _=>True)) (zR_ ap) hg (.inl rfl));replace HB:=A0_ ((by rw [hw];exact bS (HB.out) (Nat.le_trans HL.out GB11.out):Below w0.heap.size w0 w21));replace HK:=A0_ (KeepBut.trans (zKp HK) (KeepBut.of_grown hg g) (Kd.R_base2 aa.out));replace aa:=A0_ (hp_);clear hg hw hp_))
  go_ret
  exact⟨_,by first|rfl|(simp [*] <;> rfl),zmR aa (fun _ hk=>trivial),zIs HI0,zBw HB,zKp HK⟩
 rw [if_neg c6] at H
 have bk:(af == 0)=false:=beq_eq_false_iff_ne.mpr c6
 have bl:(af != 0)=true:=bne_iff_ne.mpr c6
 by_cases aw:af=1
 ·rw [if_pos aw] at H
  have a8:(af == 1)=true:=beq_iff_eq.mpr aw
  have a9:(af != 1)=false:=bne_eq_false_iff_eq.mpr aw
  clear aw
  obtain⟨bp,aC⟩ : ∃ y_:List Int,y_=(([]:List Int)):=⟨_,rfl⟩
  replace H:(some (bp,al))=some (r1,r2):=zH aC H
  have aV:=A0_ aC;clear aC;simp only [Option.some.injEq,Prod.mk.injEq] at H;obtain⟨rfl,rfl⟩:=H
  go_enter Try.func86,Try.ntmps86
  go_wp2_with (first|((with_reducible refine gC (f:=74) rfl ?_);refine zJ (some 9) Try.func74 #[.pointer (some ⟨g,0,none⟩),.int .i64 a1] ?_;(with_reducible refine(s1a_.calls k g s0_0 s0_1 a1 ag an w0 _ ?ab ?ac A3.out).mono ?_);(case ab=>repeat(first|(with_reducible first|exact HI0.out|apply IsS82.alloc|apply IsS82.drewN|apply IsS82.drew|apply IsS82.set_1)|exact HI0.out));(case ac=>repeat(first|(with_reducible first|exact HB.out|apply bA|apply bN|apply bD|refine bS ?_ (IsS82.ge HI0.out))|exact HB.out));rintro e w23 ⟨rfl,hi,hb,hk⟩;refine⟨_,rfl,?_⟩;replace HK:=A0_ (KeepBut.trans (zKp HK) hk (.inl rfl));replace HB:=A0_ (hb);replace HI0:=A0_ (hi);(try clear hb))|((with_reducible refine gC (f:=87) rfl ?_);refine zJ (some 11) Try.func87 #[.pointer (some ⟨g,0,none⟩),.int .i64 (wrap64 (1+ag))] ?_;(with_reducible refine(s1g_.calls k g s0_0 an (wrap64 (1+ag)) ae ah w0 _ ?ab ?ac A4.out).mono ?_);(case ab=>repeat(first|(with_reducible first|exact HI0.out|apply IsS82.alloc|apply IsS82.drewN|apply IsS82.drew|apply IsS82.set_1)|exact HI0.out));(case ac=>repeat(first|(with_reducible first|exact HB.out|apply bA|apply bN|apply bD|refine bS ?_ (IsS82.ge HI0.out))|exact HB.out));rintro e w24 ⟨aH,rfl,ao,hi,hb,hk⟩;refine⟨_,rfl,?_⟩;have aa:=A0_ (rL ao (keep_size (w:=w) (g:=g) (row:=none) (zKp HK)));replace HK:=A0_ (KeepBut.trans (zKp HK) hk (.inl rfl));replace HB:=A0_ (hb);replace HI0:=A0_ (hi);(try clear hb);(try clear ao))|((with_reducible refine gC (f:=74) rfl ?_);refine zJ (some 13) Try.func74 #[.pointer (some ⟨g,0,none⟩),.int .i64 40] ?_;(with_reducible refine(s1a_.calls k g s0_0 ah 40 af al w0 _ ?ab ?ac A5.out).mono ?_);(case ab=>repeat(first|(with_reducible first|exact HI0.out|apply IsS82.alloc|apply IsS82.drewN|apply IsS82.drew|apply IsS82.set_1)|exact HI0.out));(case ac=>repeat(first|(with_reducible first|exact HB.out|apply bA|apply bN|apply bD|refine bS ?_ (IsS82.ge HI0.out))|exact HB.out));rintro e w25 ⟨rfl,hi,hb,hk⟩;refine⟨_,rfl,?_⟩;replace aa:=A0_ (rM (Kd.R_keep (IsS82.apart (show IsS82 w0 _ g s0_0 ah from zIs HI0) (zR_ aa) (by decide)) hk (fun _ h=>h.2)) (fun _ h=>h.1));replace HK:=A0_ (KeepBut.trans (zKp HK) hk (.inl rfl));replace HB:=A0_ (hb);replace HI0:=A0_ (hi);(try clear hb))|((with_reducible refine gD (N:=27) rfl ?_);refine Kd.R_lit (Kd.int .i64) _ 3 ?hg (N:=27) ?hd (xs:=([]:List Int)) (inner := []) (ok:=fun _=>True) (okp:=fun _=>True) ?hr ?hp (fun _ hk=>hk) trivial (Below.refl _ _) (Nat.le_refl _) (by simp) ?_;(case hd=>rfl);(case hg=>rfl);(case hr=>first|(go_simp;done)|(go_simp;rfl));(case hp=>exact(Reps.none _ _));intro bK w26 au hb hg_ hnew_;clear hg_ hnew_;(first|rw [← aV.out] at au|(simp only [Int.reduceToNat] at au;rw [← aV.out] at au));have ba:=A0_ (rL (Kd.R_new' au (rX (zR_ aa))) (keep_size (w:=w) (g:=g) (row:=none) (zKp HK)));replace aa:=A0_ (Kd.R_elder' (zR_ aa) (Kd.R_base au) hb);replace HK:=A0_ (KeepBut.trans (zKp HK) (KeepBut.of_below hb g none) (.inl rfl));replace HB:=A0_ (bT (zBw HB) hb);replace HI0:=A0_ (IsS82.below (zIs HI0) hb);clear hb au))
  go_ret
  exact⟨_,by first|rfl|(simp [*] <;> rfl),zmR ba (fun _ hk=>trivial),zIs HI0,zBw HB,zKp HK⟩
 rw [if_neg aw] at H
 have a8:(af == 1)=false:=beq_eq_false_iff_ne.mpr aw
 have a9:(af != 1)=true:=bne_iff_ne.mpr aw
 by_cases ax:af=2
 ·rw [if_pos ax] at H
  have bb:(af == 2)=true:=beq_iff_eq.mpr ax
  have bc:(af != 2)=false:=bne_eq_false_iff_eq.mpr ax
  clear ax
  have bi:=zpc H;replace H:=zph H
  have bB:=dT bi
  have bC:decide (0<ae.length)=true:=dT (by omega)
  clear bi
  have bj:=zpc H;replace H:=zph H
  have bd:=A0_ bj;clear bj
  obtain⟨bq,aD⟩ : ∃ y_:List Int,y_=(ae ++ [rd ae 0]):=⟨_,rfl⟩
  replace H:(some (bq,al))=some (r1,r2):=zH aD H
  have be:=A0_ aD;clear aD;simp only [Option.some.injEq,Prod.mk.injEq] at H;obtain⟨rfl,rfl⟩:=H
  go_enter Try.func86,Try.ntmps86
  go_wp2_with (first|((with_reducible refine gC (f:=74) rfl ?_);refine zJ (some 9) Try.func74 #[.pointer (some ⟨g,0,none⟩),.int .i64 a1] ?_;(with_reducible refine(s1a_.calls k g s0_0 s0_1 a1 ag an w0 _ ?ab ?ac A3.out).mono ?_);(case ab=>repeat(first|(with_reducible first|exact HI0.out|apply IsS82.alloc|apply IsS82.drewN|apply IsS82.drew|apply IsS82.set_1)|exact HI0.out));(case ac=>repeat(first|(with_reducible first|exact HB.out|apply bA|apply bN|apply bD|refine bS ?_ (IsS82.ge HI0.out))|exact HB.out));rintro e w31 ⟨rfl,hi,hb,hk⟩;refine⟨_,rfl,?_⟩;replace HK:=A0_ (KeepBut.trans (zKp HK) hk (.inl rfl));replace HB:=A0_ (hb);replace HI0:=A0_ (hi);(try clear hb))|((with_reducible refine gC (f:=87) rfl ?_);refine zJ (some 11) Try.func87 #[.pointer (some ⟨g,0,none⟩),.int .i64 (wrap64 (1+ag))] ?_;(with_reducible refine(s1g_.calls k g s0_0 an (wrap64 (1+ag)) ae ah w0 _ ?ab ?ac A4.out).mono ?_);(case ab=>repeat(first|(with_reducible first|exact HI0.out|apply IsS82.alloc|apply IsS82.drewN|apply IsS82.drew|apply IsS82.set_1)|exact HI0.out));(case ac=>repeat(first|(with_reducible first|exact HB.out|apply bA|apply bN|apply bD|refine bS ?_ (IsS82.ge HI0.out))|exact HB.out));rintro e w32 ⟨aH,rfl,ao,hi,hb,hk⟩;refine⟨_,rfl,?_⟩;have aa:=A0_ (rL ao (keep_size (w:=w) (g:=g) (row:=none) (zKp HK)));replace HK:=A0_ (KeepBut.trans (zKp HK) hk (.inl rfl));replace HB:=A0_ (hb);replace HI0:=A0_ (hi);(try clear hb);(try clear ao))|((with_reducible refine gC (f:=74) rfl ?_);refine zJ (some 13) Try.func74 #[.pointer (some ⟨g,0,none⟩),.int .i64 40] ?_;(with_reducible refine(s1a_.calls k g s0_0 ah 40 af al w0 _ ?ab ?ac A5.out).mono ?_);(case ab=>repeat(first|(with_reducible first|exact HI0.out|apply IsS82.alloc|apply IsS82.drewN|apply IsS82.drew|apply IsS82.set_1)|exact HI0.out));(case ac=>repeat(first|(with_reducible first|exact HB.out|apply bA|apply bN|apply bD|refine bS ?_ (IsS82.ge HI0.out))|exact HB.out));rintro e w33 ⟨rfl,hi,hb,hk⟩;refine⟨_,rfl,?_⟩;replace aa:=A0_ (rM (Kd.R_keep (IsS82.apart (show IsS82 w0 _ g s0_0 ah from zIs HI0) (zR_ aa) (by decide)) hk (fun _ h=>h.2)) (fun _ h=>h.1));replace HK:=A0_ (KeepBut.trans (zKp HK) hk (.inl rfl));replace HB:=A0_ (hb);replace HI0:=A0_ (hi);(try clear hb);obtain⟨bL,br,bu⟩:=rS aa.out;subst bu;have aM:0≤(0:Int):=(by omega);have aN:0<(ae.length:Int):=zd;obtain⟨bf,bv,ay⟩:=tI (rR aa.out).2.2 0 aM aN;cases bv;have qi412:(0<ae.length)=True:=eq_true (by omega);(try rw [show((0:Int)).toNat=0 from rfl] at ay);(try rw [Addr.add_zero'] at ay);replace aM:=eq_true aM;replace aN:=eq_true aN)|((with_reducible refine gB (b := .append) (xs := #[.tmp 30,.tmp 34]) rfl ?_);at_builtin;refine Kd.R_append (Kd.int .i64) w.heap.size rfl (.tmp 30) (.tmp 34) 23 3 (.int .i64 0) 8 rfl Try.underlying23 info3 rfl (by decide) (by omega) (.slice (some bf) ae.length br) ae (rd ae 0) [.int .i64 (rd ae 0)] (fun _=>True) (fun _=>False) rfl rfl ?aP (fun _ hk=>hk.elim) ?aF ?aO (Below.refl _ _) ?aS ?aL ?_;(case aP=>exact rfl);(case aF=>exact(fun _ _=>trivial));(case aO=>exact(zR_ aa));(case aS=>exact(keep_size (w:=w) (g:=g) (row:=none) (zKp HK)));(case aL=>have:=bd.out;omega);intro bM w35 ho hb hg hat;rw [← be.out] at ho;replace HB:=A0_ (below_weaken (zBw HB) HL.out hb);replace HI0:=A0_ (IsS82.grown (zIs HI0) hg (IsS82.own_ne HI0.out aa.out (by decide)));replace HK:=A0_ (KeepBut.trans (zKp HK) (KeepBut.of_grown hg g) (Kd.R_base2 aa.out));have bg:=A0_ (ho);clear aa ho hb hg hat))
  go_ret
  exact⟨_,by first|rfl|(simp [*] <;> rfl),zR_ bg,zIs HI0,zBw HB,zKp HK⟩
 rw [if_neg ax] at H
 have bb:(af == 2)=false:=beq_eq_false_iff_ne.mpr ax
 have bc:(af != 2)=true:=bne_iff_ne.mpr ax
 simp only [Option.some.injEq,Prod.mk.injEq] at H;obtain⟨rfl,rfl⟩:=H
 go_enter Try.func86,Try.ntmps86
 go_wp2_with (first|((with_reducible refine gC (f:=74) rfl ?_);refine zJ (some 9) Try.func74 #[.pointer (some ⟨g,0,none⟩),.int .i64 a1] ?_;(with_reducible refine(s1a_.calls k g s0_0 s0_1 a1 ag an w0 _ ?ab ?ac A3.out).mono ?_);(case ab=>repeat(first|(with_reducible first|exact HI0.out|apply IsS82.alloc|apply IsS82.drewN|apply IsS82.drew|apply IsS82.set_1)|exact HI0.out));(case ac=>repeat(first|(with_reducible first|exact HB.out|apply bA|apply bN|apply bD|refine bS ?_ (IsS82.ge HI0.out))|exact HB.out));rintro e w36 ⟨rfl,hi,hb,hk⟩;refine⟨_,rfl,?_⟩;replace HK:=A0_ (KeepBut.trans (zKp HK) hk (.inl rfl));replace HB:=A0_ (hb);replace HI0:=A0_ (hi);(try clear hb))|((with_reducible refine gC (f:=87) rfl ?_);refine zJ (some 11) Try.func87 #[.pointer (some ⟨g,0,none⟩),.int .i64 (wrap64 (1+ag))] ?_;(with_reducible refine(s1g_.calls k g s0_0 an (wrap64 (1+ag)) ae ah w0 _ ?ab ?ac A4.out).mono ?_);(case ab=>repeat(first|(with_reducible first|exact HI0.out|apply IsS82.alloc|apply IsS82.drewN|apply IsS82.drew|apply IsS82.set_1)|exact HI0.out));(case ac=>repeat(first|(with_reducible first|exact HB.out|apply bA|apply bN|apply bD|refine bS ?_ (IsS82.ge HI0.out))|exact HB.out));rintro e w37 ⟨aH,rfl,ao,hi,hb,hk⟩;refine⟨_,rfl,?_⟩;have aa:=A0_ (rL ao (keep_size (w:=w) (g:=g) (row:=none) (zKp HK)));replace HK:=A0_ (KeepBut.trans (zKp HK) hk (.inl rfl));replace HB:=A0_ (hb);replace HI0:=A0_ (hi);(try clear hb);(try clear ao))|((with_reducible refine gC (f:=74) rfl ?_);refine zJ (some 13) Try.func74 #[.pointer (some ⟨g,0,none⟩),.int .i64 40] ?_;(with_reducible refine(s1a_.calls k g s0_0 ah 40 af al w0 _ ?ab ?ac A5.out).mono ?_);(case ab=>repeat(first|(with_reducible first|exact HI0.out|apply IsS82.alloc|apply IsS82.drewN|apply IsS82.drew|apply IsS82.set_1)|exact HI0.out));(case ac=>repeat(first|(with_reducible first|exact HB.out|apply bA|apply bN|apply bD|refine bS ?_ (IsS82.ge HI0.out))|exact HB.out));rintro e w38 ⟨rfl,hi,hb,hk⟩;refine⟨_,rfl,?_⟩;replace aa:=A0_ (rM (Kd.R_keep (IsS82.apart (show IsS82 w0 _ g s0_0 ah from zIs HI0) (zR_ aa) (by decide)) hk (fun _ h=>h.2)) (fun _ h=>h.1));replace HK:=A0_ (KeepBut.trans (zKp HK) hk (.inl rfl));replace HB:=A0_ (hb);replace HI0:=A0_ (hi);(try clear hb)))
 go_ret
 exact⟨_,by first|rfl|(simp [*] <;> rfl),zR_ aa,zIs HI0,zBw HB,zKp HK⟩
def sw_.j0:Nat→Int→List (List Int)→Int→Bool→List Int→Int→List Int→List Int→Option (List Int×List Int×Int×(List (List Int))×Int×List Int)
  | 0,_,_,_,_,_,_,_,_=>none
  | k+1,x9,ah,ai,aj,aa,ab,ac,ae=>if aj=true then ((s1h_.f k aa ab 4).bind fun af=>(some (ac,ae,x9,ah,ai,af.1))) else ((s1g_.f k aa ab x9).bind fun ag=>(some (ac,ae,x9,ah,ai,ag.1)))
def sw_.f (k:Nat) (l0:List Int):Option (List Int×List Int×Int×(List (List Int))×Int×List Int):=(s19_.f l0).bind fun ab=>((s1i_.f k ab.1 ab.2).bind fun aa=>((s1e_.f k ab.1 aa.2.2.2.2 (aa.1.length:Int)).bind fun ac=>((s1a_.f k ab.1 ac.2 16).bind fun ae=>(if ae.1=0 then (sw_.j0 k aa.2.2.1 aa.2.2.2.1 ac.1 true ab.1 ae.2 aa.1 aa.2.1) else (sw_.j0 k aa.2.2.1 aa.2.2.2.1 ac.1 (decide (aa.2.2.1<1)) ab.1 ae.2 aa.1 aa.2.1)))))
def sw_.T5:Bool×List (List Nat×List Nat):=(true,[([],[]),([],[]),([],[]),([],[]),([],[]),([4],[4]),([0,5,0],[0]),([1,6,0,1,6],[1]),([2,7,0,1,2,6,7],[2]),([3,8,0,1,2,3,6,7,8],[3]),([5,9,0,1,2,3,4,5,6,7,8,9],[5])])
def sw_.B5:List Nat := [0,0,0,0,0,16,49,115,247,511,1023]
theorem sw_.tab5:rtab .any (opsOf Try.f30 5)=sw_.T5:=by kernel_rfl
theorem sw_.bits5:waitsOk sw_.T5.2 sw_.B5=true:=by kernel_rfl
def sw_.T6:Bool×List (List Nat×List Nat):=(true,[([],[]),([],[]),([],[]),([],[]),([],[]),([],[]),([4,5],[4,5]),([0,6,0],[0]),([1,7,0,1,7],[1]),([2,8,0,1,2,7,8],[2]),([3,9,0,1,2,3,7,8,9],[3]),([6,10,0,1,2,3,4,5,6,7,8,9,10],[6])])
def sw_.B6:List Nat := [0,0,0,0,0,0,48,113,243,503,1023,2047]
theorem sw_.tab6:rtab .any (opsOf Try.f30 6)=sw_.T6:=by kernel_rfl
theorem sw_.bits6:waitsOk sw_.T6.2 sw_.B6=true:=by kernel_rfl
theorem sw_.calls (k:Nat) (A0:Option Addr) (c0:Nat) (l0:List Int) (r1:List Int) (r2:List Int) (r3:Int) (r4:List (List Int)) (r5:Int) (r6:List Int) (w:World) (bj:Kd.C (Kd.int .u8) w A0 l0.length l0) (bk:l0.length≤c0) (h:sw_.f k l0=some (r1,r2,r3,r4,r5,r6)) :
    Calls Try.prog 30 #[.slice A0 l0.length c0] w fun e w' => ∃ v0_ v1_ v3_ v5_:Value,e = .returned (.tuple #[.agg #[v0_,v1_],.int .i64 r3,v3_,.int .i64 r5,v5_])∧Kd.Q (Kd.int .i64) 3 w' w.heap.size (fun k_=>nO k_ v1_∧nO k_ v5_) v0_ r1∧Kd.R (Kd.int .i64) 3 w' w.heap.size (fun k_=>nO k_ v0_∧nO k_ v5_) v1_ r2∧Kd.S (Kd.slice 3 (Kd.int .i64)) 23 w' w.heap.size (fun k_=>nO k_ v0_∧nO k_ v1_∧nO k_ v5_) v3_ r4∧Kd.R (Kd.int .i64) 3 w' w.heap.size (fun k_=>nO k_ v0_∧nO k_ v1_) v5_ r6∧Below w.heap.size w w':=by
 have b2:=Try.underlying25;have bI:=A0_ bj;have bJ:=A0_ bk;clear bj bk
 have HB:=A0_ (Below.refl w.heap.size w)
 have H:((s19_.f l0).bind fun aK=>((s1i_.f k aK.1 aK.2).bind fun aA=>((s1e_.f k aK.1 aA.2.2.2.2 (aA.1.length:Int)).bind fun aX=>((s1a_.f k aK.1 aX.2 16).bind fun aY=>(if aY.1=0 then (sw_.j0 k aA.2.2.1 aA.2.2.2.1 aX.1 true aK.1 aY.2 aA.1 aA.2.1) else (sw_.j0 k aA.2.2.1 aA.2.2.2.1 aX.1 (decide (aA.2.2.1<1)) aK.1 aY.2 aA.1 aA.2.1))))))=some (r1,r2,r3,r4,r5,r6):=h
 clear h;obtain⟨⟨ak,bb⟩,A2,H⟩:=zbind H;dsimp only at H;obtain⟨⟨ae,aj,aJ,aV,aM⟩,A3,H⟩:=zbind H;dsimp only at H;obtain⟨⟨aZ,aH⟩,A4,H⟩:=zbind H;dsimp only at H;have bc:=A0_ H;clear H
 go_enter Try.func30,Try.ntmps30
 go_upto_region 4 with(first|((with_reducible refine gD (N:=2) rfl ?_);refine zX (N:=2) (cs := #[.slice none 0 0,.slice none 0 0]) (t:=25) ?_;intro ab hg w6 hbox hb;have aa:=A0_ (hbox);have bM:=zG hg HB;have aI:=zG hg HB;replace HB:=zB HB hb;clear hb hbox hg)|((with_reducible refine gC (f:=52) rfl ?_);refine zJ (some 13) Try.func52 #[.slice A0 l0.length c0] ?_;(with_reducible refine(s19_.calls _ _ l0 ak bb w _ ?ar ?au ?bd A2.out).mono ?_);(case ar=>repeat(first|(with_reducible first|exact HB.out|apply bA|apply bN|apply bD|refine bS ?_ aI.out)|exact HB.out));(case au=>exact bI.out);(case bd=>exact bJ.out);rintro e w7 ⟨g419,rfl,hi,hb,hb2⟩;refine⟨_,rfl,?_⟩;replace HB:=A0_ (hb);have HI419:=A0_ (hi);have aw:=A0_ (IsS82.ne_blk hi (kB (g:=ab) (o := .cells #[.slice none 0 0,.slice none 0 0] 25 (0,0)) (zK_ aa) hb2) (by decide));have ax:=A0_ (Ne.symm (IsS82.ne_blk hi (kB (g:=ab) (o := .cells #[.slice none 0 0,.slice none 0 0] 25 (0,0)) (zK_ aa) hb2) (by decide)));replace aa:=A0_ (kB (g:=ab) (o := .cells #[.slice none 0 0,.slice none 0 0] 25 (0,0)) (zK_ aa) hb2);(try clear hb))|((with_reducible refine gC (f:=51) rfl ?_);refine zJ (some 16) Try.func51 #[.pointer (some ⟨g419,0,none⟩)] ?_;(with_reducible refine(s1i_.calls k g419 ak bb ae aj aJ aV aM w _ ?ar ?au A3.out).mono ?_);(case ar=>repeat(first|(with_reducible first|exact HI419.out|apply IsS82.alloc|apply IsS82.drewN|apply IsS82.drew|apply IsS82.set_1|refine IsS82.far ?_ aw.out _)|exact HI419.out));(case au=>repeat(first|(with_reducible first|exact HB.out|apply bA|apply bN|apply bD|refine bS ?_ (IsS82.ge HI419.out)|refine bS ?_ aI.out)|exact HB.out));rintro e w8 ⟨b3,b4,bo,rfl,aG,bl,bm,hi,hb,hk⟩;refine⟨_,rfl,?_⟩;replace aa:=A0_ (KeepBut.blk hk (g':=ab) (o := .cells #[.slice none 0 0,.slice none 0 0] 25 (0,0)) (zK_ aa) ax.out (by simp));have aC:=A0_ (Kd.Q_lower aG (bZ (zBw HB)));have aD:=A0_ (rL bl (bZ (zBw HB)));have aE:=A0_ (Kd.S_lower bm (bZ (zBw HB)));replace HB:=A0_ (hb);replace HI419:=A0_ (hi);(try clear hb);(try clear aG);(try clear bl);(try clear bm))|((with_reducible refine gD (N:=8) rfl ?_);refine zX (N:=8) (cs := #[.slice none 0 0,.slice none 0 0]) (t:=25) ?_;intro ap hg w9 hbox hb;replace aC:=A0_ (Kd.Q_below (zQ_ aC) hb);replace aD:=zR aD hb;replace aE:=zS aE hb;have ac:=A0_ (hbox);have bO:=A0_ ((by rw [hg];exact(bZ (zBw HB)):w.heap.size≤ap));have aQ:=A0_ ((by rw [hg];exact(bZ (zBw HB)):w.heap.size≤ap));replace HB:=A0_ (bT (zBw HB) hb);have aq:=zL hg aa;have ah:=zM hg aa;replace aa:=zK aa hb;have ay:=A0_ ((by rw [hg];exact Nat.ne_of_lt (IsS82.lt (show IsS82 w _ g419 ak aM from zIs HI419)):g419≠ap));have az:=A0_ ((by rw [hg];exact Nat.ne_of_gt (IsS82.lt (show IsS82 w _ g419 ak aM from zIs HI419)):ap≠g419));replace HI419:=A0_ (IsS82.below (zIs HI419) hb);clear hb hbox hg;obtain⟨al,am,bp,_⟩:=Kd.Q_slice aC.out;subst bp;have bP:=ah.out;have bQ:=aq.out;have bR:=az.out;have bU:=ay.out;have a7:=zc0 ac;have a8:=zc1 ac;have a9:=kF ac.out 0;have ba:=kF ac.out 1;obtain⟨an,ao,bq⟩:=rS aD.out;subst bq)|((with_reducible refine gC (f:=85) rfl ?_);refine zJ (some 24) Try.func85 #[.pointer (some ⟨g419,0,none⟩),.int .i64 (ae.length:Int)] ?_;(with_reducible refine(s1e_.calls k g419 ak aM (ae.length:Int) aZ aH w _ ?ar ?au A4.out).mono ?_);(case ar=>repeat(first|(with_reducible first|exact HI419.out|apply IsS82.alloc|apply IsS82.drewN|apply IsS82.drew|apply IsS82.set_1|refine IsS82.far ?_ aw.out _|refine IsS82.far ?_ ay.out _)|exact HI419.out));(case au=>repeat(first|(with_reducible first|exact HB.out|apply bA|apply bN|apply bD|refine bS ?_ (IsS82.ge HI419.out)|refine bS ?_ aI.out|refine bS ?_ aQ.out)|exact HB.out));rintro e w15 ⟨rfl,hi,hb,hk⟩;refine⟨_,rfl,?_⟩;replace aa:=A0_ (KeepBut.blk hk (g':=ab) (o := .cells #[.slice none 0 0,.slice none 0 0] 25 (0,0)) (by refine zbf ?_ _ (hp:=by exact aq.out);refine zbf ?_ _ (hp:=by exact aq.out);exact zK_ aa) ax.out (by simp));replace aC:=A0_ (Kd.Q_mono (Kd.Q_keep (IsS82.apartQ (show IsS82 w _ g419 ak aM from zIs HI419) (by(with_reducible repeat(first|apply Kd.Q_alloc|apply Kd.Q_drewN|apply Kd.Q_drew));exact(Kd.Q_mono (Kd.Q_far (p:=⟨ap,1,none⟩) (Kd.Q_far (p:=⟨ap,0,none⟩) (Kd.Q_types aC.out ac.out (by decide)) (fun _ hk=>hk.2) (.slice al ae.length am)) (fun _ hk=>hk.2) (.slice an aj.length ao)) (fun _ h_=>h_.1))) (by decide)) hk (fun _ h=>h.2)) (fun _ h=>h.1));replace aD:=A0_ (rM (Kd.R_keep (IsS82.apart (show IsS82 w _ g419 ak aM from zIs HI419) (zF aD ac (.slice al ae.length am) (.slice an aj.length ao) 0 1) (by decide)) hk (fun _ h=>h.2)) (fun _ h=>h.1));replace aE:=A0_ (sM (Kd.S_keep (IsS82.apartS (show IsS82 w _ g419 ak aM from zIs HI419) (zFS aE ac (.slice al ae.length am) (.slice an aj.length ao) 0 1) (by decide)) hk (fun _ h=>h.2)) (fun _ h=>h.1));replace ac:=A0_ (KeepBut.blk hk (g':=ap) (o := .cells #[.slice al ae.length am,.slice an aj.length ao] 25 (0,0)) (by refine zbp (cs := #[.slice al ae.length am,.slice none 0 0]) ?_ 1 _ rfl;refine zbp (cs := #[.slice none 0 0,.slice none 0 0]) ?_ 0 _ rfl;exact zK_ ac) az.out (by simp));replace HB:=A0_ (hb);replace HI419:=A0_ (hi);(try clear hb)))
 (try simp only [Act.put,List.setIfInBounds_toArray,List.set_cons_zero,List.set_cons_succ])
 go_cut [31] (fun v31 wc => ∃ (kq:Nat) (aU:Bool) (ai:Int),v31 = .bool aU∧Aside0 (sw_.j0 kq aJ aV aZ aU ak ai ae aj=some (r1,r2,r3,r4,r5,r6))∧Aside0 (kq≤k)∧Aside0 (Kd.S (Kd.slice 3 (Kd.int .i64)) 23 wc w.heap.size (fun k_=>some k_≠((.slice al ae.length am):Value).ownBlock∧some k_≠((.slice an aj.length ao):Value).ownBlock) bo aV)∧Aside0 (Kd.Q (Kd.int .i64) 3 wc w.heap.size (fun k_=>some k_≠((.slice an aj.length ao):Value).ownBlock) (.slice al ae.length am) ae)∧Aside0 (Kd.R (Kd.int .i64) 3 wc w.heap.size (fun k_=>some k_≠((.slice al ae.length am):Value).ownBlock) (.slice an aj.length ao) aj)∧Aside0 (wc.heap[ab]? = some (.cells #[(.slice none 0 0),(.slice none 0 0)] 25 (0,0)))∧Aside0 (wc.heap[ap]? = some (.cells #[(.slice al ae.length am),(.slice an aj.length ao)] 25 (0,0)))∧Aside0 (IsS82 w wc g419 ak ai)∧Aside0 (Below w.heap.size w wc))
 case first =>
  have H:=bc.out;clear bc;obtain⟨⟨aN,a4⟩,bn,H⟩:=zbind H;dsimp only at H
  by_cases aW:aN=0
  ·rw [if_pos aW] at H
   have aT:(aN == 0)=true:=beq_iff_eq.mpr aW
   have be:(aN != 0)=false:=bne_eq_false_iff_eq.mpr aW
   clear aW
   (first|rw [aT]|(simp only [i64_w,i32_w];rw [aT])|skip)
   have H':=A0_ H;clear H
   go_wp2_with (first|((with_reducible refine gC (f:=74) rfl ?_);refine zJ (some 26) Try.func74 #[.pointer (some ⟨g419,0,none⟩),.int .i64 16] ?_;(with_reducible refine(s1a_.calls k g419 ak aH 16 aN a4 w _ ?ar ?au bn.out).mono ?_);(case ar=>repeat(first|(with_reducible first|exact HI419.out|apply IsS82.alloc|apply IsS82.drewN|apply IsS82.drew|apply IsS82.set_1|refine IsS82.far ?_ aw.out _|refine IsS82.far ?_ ay.out _)|exact HI419.out));(case au=>repeat(first|(with_reducible first|exact HB.out|apply bA|apply bN|apply bD|refine bS ?_ (IsS82.ge HI419.out)|refine bS ?_ aI.out|refine bS ?_ aQ.out)|exact HB.out));rintro e w18 ⟨rfl,hi,hb,hk⟩;refine⟨_,rfl,?_⟩;replace aa:=A0_ (KeepBut.blk hk (g':=ab) (o := .cells #[.slice none 0 0,.slice none 0 0] 25 (0,0)) (zK_ aa) ax.out (by simp));replace aC:=A0_ (Kd.Q_mono (Kd.Q_keep (IsS82.apartQ (show IsS82 w _ g419 ak aH from zIs HI419) (zQ_ aC) (by decide)) hk (fun _ h=>h.2)) (fun _ h=>h.1));replace aD:=A0_ (rM (Kd.R_keep (IsS82.apart (show IsS82 w _ g419 ak aH from zIs HI419) (zR_ aD) (by decide)) hk (fun _ h=>h.2)) (fun _ h=>h.1));replace aE:=A0_ (sM (Kd.S_keep (IsS82.apartS (show IsS82 w _ g419 ak aH from zIs HI419) (zS_ aE) (by decide)) hk (fun _ h=>h.2)) (fun _ h=>h.1));replace ac:=A0_ (KeepBut.blk hk (g':=ap) (o := .cells #[.slice al ae.length am,.slice an aj.length ao] 25 (0,0)) (zK_ ac) az.out (by simp));replace HB:=A0_ (hb);replace HI419:=A0_ (hi);(try clear hb)))
   go_meet
   case rel=>exact⟨_,(true),(a4),zt,H',zo,⟨zS_ aE⟩,⟨zQ_ aC⟩,⟨zR_ aD⟩,⟨zK_ aa⟩,⟨zK_ ac⟩,⟨zIs HI419⟩,⟨zBw HB⟩⟩
  rw [if_neg aW] at H
  have aT:(aN == 0)=false:=beq_eq_false_iff_ne.mpr aW
  have be:(aN != 0)=true:=bne_iff_ne.mpr aW
  (first|rw [aT]|(simp only [i64_w,i32_w];rw [aT])|skip)
  have H':=A0_ H;clear H
  go_wp2_with (first|((with_reducible refine gC (f:=74) rfl ?_);refine zJ (some 26) Try.func74 #[.pointer (some ⟨g419,0,none⟩),.int .i64 16] ?_;(with_reducible refine(s1a_.calls k g419 ak aH 16 aN a4 w _ ?ar ?au bn.out).mono ?_);(case ar=>repeat(first|(with_reducible first|exact HI419.out|apply IsS82.alloc|apply IsS82.drewN|apply IsS82.drew|apply IsS82.set_1|refine IsS82.far ?_ aw.out _|refine IsS82.far ?_ ay.out _)|exact HI419.out));(case au=>repeat(first|(with_reducible first|exact HB.out|apply bA|apply bN|apply bD|refine bS ?_ (IsS82.ge HI419.out)|refine bS ?_ aI.out|refine bS ?_ aQ.out)|exact HB.out));rintro e w19 ⟨rfl,hi,hb,hk⟩;refine⟨_,rfl,?_⟩;replace aa:=A0_ (KeepBut.blk hk (g':=ab) (o := .cells #[.slice none 0 0,.slice none 0 0] 25 (0,0)) (zK_ aa) ax.out (by simp));replace aC:=A0_ (Kd.Q_mono (Kd.Q_keep (IsS82.apartQ (show IsS82 w _ g419 ak aH from zIs HI419) (zQ_ aC) (by decide)) hk (fun _ h=>h.2)) (fun _ h=>h.1));replace aD:=A0_ (rM (Kd.R_keep (IsS82.apart (show IsS82 w _ g419 ak aH from zIs HI419) (zR_ aD) (by decide)) hk (fun _ h=>h.2)) (fun _ h=>h.1));replace aE:=A0_ (sM (Kd.S_keep (IsS82.apartS (show IsS82 w _ g419 ak aH from zIs HI419) (zS_ aE) (by decide)) hk (fun _ h=>h.2)) (fun _ h=>h.1));replace ac:=A0_ (KeepBut.blk hk (g':=ap) (o := .cells #[.slice al ae.length am,.slice an aj.length ao] 25 (0,0)) (zK_ ac) az.out (by simp));replace HB:=A0_ (hb);replace HI419:=A0_ (hi);(try clear hb)))
  go_meet
  case rel=>exact⟨_,(decide (aJ<1)),(a4),zt,H',zo,⟨zS_ aE⟩,⟨zQ_ aC⟩,⟨zR_ aD⟩,⟨zK_ aa⟩,⟨zK_ ac⟩,⟨zIs HI419⟩,⟨zBw HB⟩⟩
 case rest =>
  clear bc;(try clear a7);(try clear a8);(try clear a9);(try clear ba);obtain⟨kq,aU,ai,rfl,HA,cb,av,af,ag,aa,ac,HI419,HB⟩:=hcut
  cases kq with
  | zero=>exact absurd HA.out (by simp [sw_.j0])
  | succ a5 =>
   have H:=HA.out;clear HA;simp only [sw_.j0] at H
   by_cases a6:aU=true
   ·subst a6
    have H1:((s1h_.f a5 ak ai 4).bind fun bf=>(some (ae,aj,aJ,aV,aZ,bf.1)))=some (r1,r2,r3,r4,r5,r6):=by rw [if_pos rfl] at H;exact H
    clear H;have H:=H1;clear H1;obtain⟨⟨br,bu⟩,bK,H⟩:=zbind H;dsimp only at H;simp only [Option.some.injEq,Prod.mk.injEq] at H;obtain⟨rfl,rfl,rfl,rfl,rfl,rfl⟩:=H
    try go_wp2
    replace av:=A0_ (sD av.out)
    replace af:=A0_ (Kd.Q_drew af.out)
    replace ag:=A0_ (rD ag.out)
    replace aa:=A0_ (kD aa.out)
    replace ac:=A0_ (kD ac.out)
    replace HI419:=A0_ (IsS82.drew HI419.out)
    replace HB:=A0_ (bD HB.out)
    refine start_ (n:=11) (S:=fun w'=>w'.cell? ⟨ap,0,none⟩=some (.slice al ae.length am)∧w'.cell? ⟨ap,1,none⟩=some (.slice an aj.length ao)) (ds := []) (bs 11 0) (by kernel_rfl) rfl rfl ⟨(kC ac.out 0).trans rfl,(kC ac.out 1).trans rfl⟩ (fun hHeld => ?_);refine with_tabW sw_.tab5 sw_.bits5 (fun HT_ HW_ => ?_)
    generalize wc.drew=w22 at av af ag aa ac HI419 HB hHeld ⊢
    refine zP 1 (some 33) (bs 11 2) ?_
    refine zP 2 (some 34) (bs 11 6) ?_
    refine zP 3 (some 35) (bs 11 14) ?_
    refine zP 4 (some 36) (bs 11 30) ?_
    refine zT 0 (some 32) (bs 11 31) hHeld ?_
    refine one_ (i:=5) (N:=some 37) (bs 11 63) rfl rfl (one_of HT_.out (by kernel_rfl)) (by decide) (fun K hK => ?_)
    refine zg Try.func86 #[.pointer (some ⟨g419,0,none⟩),.int .i64 4] ?_
    with_reducible refine(s1h_.calls a5 g419 ak ai 4 br bu w _ ?ar ?au bK.out).mono ?_
    (case ar=>repeat(first|(with_reducible first|exact HI419.out|apply IsS82.alloc|apply IsS82.drewN|apply IsS82.drew|apply IsS82.set_1|refine IsS82.far ?_ aw.out _|refine IsS82.far ?_ ay.out _)|exact HI419.out))
    (case au=>repeat(first|(with_reducible first|exact HB.out|apply bA|apply bN|apply bD|refine bS ?_ (IsS82.ge HI419.out)|refine bS ?_ aI.out|refine bS ?_ aQ.out)|exact HB.out))
    rintro e w23 ⟨b5,rfl,aG,hi,hb,hk⟩
    refine⟨_,rfl,?_⟩
    replace av:=A0_ (sM (Kd.S_told (Kd.S_oldK (IsS82.apartS (show IsS82 w _ g419 ak ai from zIs HI419) (zS_ av) (by decide)) hk) (Kd.R_base aG)) (fun _ h_=>h_.1))
    replace aa:=A0_ (KeepBut.blk hk (g':=ab) (o := .cells #[.slice none 0 0,.slice none 0 0] 25 (0,0)) (zK_ aa) ax.out (by simp))
    replace ac:=A0_ (KeepBut.blk hk (g':=ap) (o := .cells #[.slice al ae.length am,.slice an aj.length ao] 25 (0,0)) (zK_ ac) az.out (by simp))
    have bg:=A0_ (rL (Kd.R_new' (Kd.R_new' aG (Kd.Q_lt (zQ_ af))) (rX (zR_ ag))) (bZ (zBw HB)))
    replace af:=A0_ (Kd.Q_mono (Kd.Q_told (Kd.Q_oldK (IsS82.apartQ (show IsS82 w _ g419 ak ai from zIs HI419) (zQ_ af) (by decide)) hk) (Kd.R_base aG)) (fun _ h_=>h_.1))
    replace ag:=A0_ (rM (rT (Kd.R_oldK (IsS82.apart (show IsS82 w _ g419 ak ai from zIs HI419) (zR_ ag) (by decide)) hk) (Kd.R_base aG)) (fun _ h_=>h_.1))
    replace HB:=A0_ (hb)
    replace HI419:=A0_ (hi)
    (try clear hb);(try clear hb2);(try clear hk);(try clear hi);(try clear aG)
    refine hK.out _ _ ⟨(kC ac.out 0).trans rfl,(kC ac.out 1).trans rfl⟩ (fun hHeld => ?_)
    clear hK K
    refine zN (some 37) ?_
    refine one_ (i:=6) (N:=none) (bs 11 127) rfl rfl (one_of HT_.out (by kernel_rfl)) (by decide) (fun K hK => ?_)
    have b6:w23.cell? ⟨ab,0,none⟩=some (.slice none 0 0):=(kC aa.out 0).trans rfl
    have bV:=kF aa.out 0;have bx:=ah.out;have bz:=aq.out
    have b7:w23.cell? ⟨ab,1,none⟩=some (.slice none 0 0):=(kC aa.out 1).trans rfl
    have bW:=kF aa.out 1;have bB:=ah.out;have bC:=aq.out
    refine skip_ (w1 := ?_) (by rfl) rfl ?_ ?_
    rotate_left
    ·go_simp
     rfl
    refine hK.out _ _ ⟨((cell_far (p:=⟨ab,_,none⟩) ah.out _).trans (((cell_far (p:=⟨ab,_,none⟩) ah.out _).trans (hHeld.1)))),((cell_far (p:=⟨ab,_,none⟩) ah.out _).trans (((cell_far (p:=⟨ab,_,none⟩) ah.out _).trans (hHeld.2))))⟩ (fun hHeld => ?_)
    clear hK K
    refine zP 7 (some 3) (bs 11 255) ?_
    refine zP 8 (some 4) (bs 11 511) ?_
    refine zP 9 (some 5) (bs 11 1023) ?_
    refine zP 10 (some 6) (bs 11 2047) ?_
    refine done_ (done_of HT_.out (by kernel_rfl)) ?_
    try go_wp2
    refine bodyPost_ret (results_list (rs := [.cell 2 25,.tmp 3,.tmp 4,.tmp 5,.tmp 6]) rfl (by simp) (.cell ab 25 #[.slice al ae.length am,.slice an aj.length ao] (0,0) _ rfl (by refine zbp (cs := #[.slice al ae.length am,.slice none 0 0]) ?_ 1 _ rfl;refine zbp (cs := #[.slice none 0 0,.slice none 0 0]) ?_ 0 _ rfl;exact zK_ aa) Try.underlying25 rfl (by kernel_rfl) (.tmp (.tmp (.tmp (.tmp .nil)))))) rfl ?_
    exact⟨_,_,_,_,by first|rfl|(simp [*] <;> rfl),by(with_reducible repeat(first|apply Kd.Q_alloc|apply Kd.Q_drewN|apply Kd.Q_drew));exact Kd.Q_mono (Kd.Q_far (p:=⟨ab,1,none⟩) (Kd.Q_far (p:=⟨ab,0,none⟩) (Kd.Q_types af.out aa.out (by decide)) (fun _ hk=>hk.2) (.slice al ae.length am)) (fun _ hk=>hk.2) (.slice an aj.length ao)) (fun _ hk=>⟨hk.1.1,hk.1.2⟩),by(with_reducible repeat(first|apply rA|apply rN|apply rD));exact rM (rF (p:=⟨ab,1,none⟩) (rF (p:=⟨ab,0,none⟩) (rY ag.out aa.out (by decide)) (fun _ hk=>hk.2) (.slice al ae.length am)) (fun _ hk=>hk.2) (.slice an aj.length ao)) (fun _ hk=>⟨hk.1.1,hk.1.2⟩),by(with_reducible repeat(first|apply sA|apply sN|apply sD));exact sM (Kd.S_far (p:=⟨ab,1,none⟩) (Kd.S_far (p:=⟨ab,0,none⟩) (Kd.S_types av.out aa.out (by decide)) (fun _ hk=>hk.2) (.slice al ae.length am)) (fun _ hk=>hk.2) (.slice an aj.length ao)) (fun _ hk=>⟨hk.1.1.1,⟨hk.1.1.2,hk.1.2⟩⟩),by(with_reducible repeat(first|apply rA|apply rN|apply rD));exact rM (rF (p:=⟨ab,1,none⟩) (rF (p:=⟨ab,0,none⟩) (rY bg.out aa.out (by decide)) (fun _ hk=>hk.2) (.slice al ae.length am)) (fun _ hk=>hk.2) (.slice an aj.length ao)) (fun _ hk=>⟨hk.1.1.2,hk.1.2⟩),zBw HB⟩
   replace a6:=Bool.eq_false_iff.mpr a6;subst a6
   have H1:((s1g_.f a5 ak ai aJ).bind fun bh=>(some (ae,aj,aJ,aV,aZ,bh.1)))=some (r1,r2,r3,r4,r5,r6):=by rw [if_neg (show ¬ (false=true) by decide)] at H;exact H
   clear H;have H:=H1;clear H1;obtain⟨⟨bv,bw⟩,bL,H⟩:=zbind H;dsimp only at H;simp only [Option.some.injEq,Prod.mk.injEq] at H;obtain⟨rfl,rfl,rfl,rfl,rfl,rfl⟩:=H
   try go_wp2
   replace av:=A0_ (sD av.out)
   replace af:=A0_ (Kd.Q_drew af.out)
   replace ag:=A0_ (rD ag.out)
   replace aa:=A0_ (kD aa.out)
   replace ac:=A0_ (kD ac.out)
   replace HI419:=A0_ (IsS82.drew HI419.out)
   replace HB:=A0_ (bD HB.out)
   refine start_ (n:=12) (S:=fun w'=>w'.cell? ⟨ap,0,none⟩=some (.slice al ae.length am)∧w'.cell? ⟨ap,1,none⟩=some (.slice an aj.length ao)) (ds := []) (bs 12 0) (by kernel_rfl) rfl rfl ⟨(kC ac.out 0).trans rfl,(kC ac.out 1).trans rfl⟩ (fun hHeld => ?_);refine with_tabW sw_.tab6 sw_.bits6 (fun HT_ HW_ => ?_)
   generalize wc.drew=w27 at av af ag aa ac HI419 HB hHeld ⊢
   refine zP 1 (some 39) (bs 12 2) ?_
   refine zP 2 (some 40) (bs 12 6) ?_
   refine zP 3 (some 41) (bs 12 14) ?_
   refine zP 4 (some 42) (bs 12 30) ?_
   refine zP 5 (some 43) (bs 12 62) ?_
   refine zT 0 (some 38) (bs 12 63) hHeld ?_
   refine one_ (i:=6) (N:=some 44) (bs 12 127) rfl rfl (one_of HT_.out (by kernel_rfl)) (by decide) (fun K hK => ?_)
   refine zg Try.func87 #[.pointer (some ⟨g419,0,none⟩),.int .i64 aJ] ?_
   with_reducible refine(s1g_.calls a5 g419 ak ai aJ bv bw w _ ?ar ?au bL.out).mono ?_
   (case ar=>repeat(first|(with_reducible first|exact HI419.out|apply IsS82.alloc|apply IsS82.drewN|apply IsS82.drew|apply IsS82.set_1|refine IsS82.far ?_ aw.out _|refine IsS82.far ?_ ay.out _)|exact HI419.out))
   (case au=>repeat(first|(with_reducible first|exact HB.out|apply bA|apply bN|apply bD|refine bS ?_ (IsS82.ge HI419.out)|refine bS ?_ aI.out|refine bS ?_ aQ.out)|exact HB.out))
   rintro e w28 ⟨b8,rfl,aG,hi,hb,hk⟩
   refine⟨_,rfl,?_⟩
   replace av:=A0_ (sM (Kd.S_told (Kd.S_oldK (IsS82.apartS (show IsS82 w _ g419 ak ai from zIs HI419) (zS_ av) (by decide)) hk) (Kd.R_base aG)) (fun _ h_=>h_.1))
   replace aa:=A0_ (KeepBut.blk hk (g':=ab) (o := .cells #[.slice none 0 0,.slice none 0 0] 25 (0,0)) (zK_ aa) ax.out (by simp))
   replace ac:=A0_ (KeepBut.blk hk (g':=ap) (o := .cells #[.slice al ae.length am,.slice an aj.length ao] 25 (0,0)) (zK_ ac) az.out (by simp))
   have bi:=A0_ (rL (Kd.R_new' (Kd.R_new' aG (Kd.Q_lt (zQ_ af))) (rX (zR_ ag))) (bZ (zBw HB)))
   replace af:=A0_ (Kd.Q_mono (Kd.Q_told (Kd.Q_oldK (IsS82.apartQ (show IsS82 w _ g419 ak ai from zIs HI419) (zQ_ af) (by decide)) hk) (Kd.R_base aG)) (fun _ h_=>h_.1))
   replace ag:=A0_ (rM (rT (Kd.R_oldK (IsS82.apart (show IsS82 w _ g419 ak ai from zIs HI419) (zR_ ag) (by decide)) hk) (Kd.R_base aG)) (fun _ h_=>h_.1))
   replace HB:=A0_ (hb)
   replace HI419:=A0_ (hi)
   (try clear hb);(try clear hb2);(try clear hk);(try clear hi);(try clear aG)
   refine hK.out _ _ ⟨(kC ac.out 0).trans rfl,(kC ac.out 1).trans rfl⟩ (fun hHeld => ?_)
   clear hK K
   refine zN (some 44) ?_
   refine one_ (i:=7) (N:=none) (bs 12 255) rfl rfl (one_of HT_.out (by kernel_rfl)) (by decide) (fun K hK => ?_)
   have b9:w28.cell? ⟨ab,0,none⟩=some (.slice none 0 0):=(kC aa.out 0).trans rfl
   have bX:=kF aa.out 0;have bE:=ah.out;have bF:=aq.out
   have ca:w28.cell? ⟨ab,1,none⟩=some (.slice none 0 0):=(kC aa.out 1).trans rfl
   have bY:=kF aa.out 1;have bG:=ah.out;have bH:=aq.out
   refine skip_ (w1 := ?_) (by rfl) rfl ?_ ?_
   rotate_left
   ·go_simp
    rfl
   refine hK.out _ _ ⟨((cell_far (p:=⟨ab,_,none⟩) ah.out _).trans (((cell_far (p:=⟨ab,_,none⟩) ah.out _).trans (hHeld.1)))),((cell_far (p:=⟨ab,_,none⟩) ah.out _).trans (((cell_far (p:=⟨ab,_,none⟩) ah.out _).trans (hHeld.2))))⟩ (fun hHeld => ?_)
   clear hK K
   refine zP 8 (some 3) (bs 12 511) ?_
   refine zP 9 (some 4) (bs 12 1023) ?_
   refine zP 10 (some 5) (bs 12 2047) ?_
   refine zP 11 (some 6) (bs 12 4095) ?_
   refine done_ (done_of HT_.out (by kernel_rfl)) ?_
   try go_wp2
   refine bodyPost_ret (results_list (rs := [.cell 2 25,.tmp 3,.tmp 4,.tmp 5,.tmp 6]) rfl (by simp) (.cell ab 25 #[.slice al ae.length am,.slice an aj.length ao] (0,0) _ rfl (by refine zbp (cs := #[.slice al ae.length am,.slice none 0 0]) ?_ 1 _ rfl;refine zbp (cs := #[.slice none 0 0,.slice none 0 0]) ?_ 0 _ rfl;exact zK_ aa) Try.underlying25 rfl (by kernel_rfl) (.tmp (.tmp (.tmp (.tmp .nil)))))) rfl ?_
   exact⟨_,_,_,_,by first|rfl|(simp [*] <;> rfl),by(with_reducible repeat(first|apply Kd.Q_alloc|apply Kd.Q_drewN|apply Kd.Q_drew));exact Kd.Q_mono (Kd.Q_far (p:=⟨ab,1,none⟩) (Kd.Q_far (p:=⟨ab,0,none⟩) (Kd.Q_types af.out aa.out (by decide)) (fun _ hk=>hk.2) (.slice al ae.length am)) (fun _ hk=>hk.2) (.slice an aj.length ao)) (fun _ hk=>⟨hk.1.1,hk.1.2⟩),by(with_reducible repeat(first|apply rA|apply rN|apply rD));exact rM (rF (p:=⟨ab,1,none⟩) (rF (p:=⟨ab,0,none⟩) (rY ag.out aa.out (by decide)) (fun _ hk=>hk.2) (.slice al ae.length am)) (fun _ hk=>hk.2) (.slice an aj.length ao)) (fun _ hk=>⟨hk.1.1,hk.1.2⟩),by(with_reducible repeat(first|apply sA|apply sN|apply sD));exact sM (Kd.S_far (p:=⟨ab,1,none⟩) (Kd.S_far (p:=⟨ab,0,none⟩) (Kd.S_types av.out aa.out (by decide)) (fun _ hk=>hk.2) (.slice al ae.length am)) (fun _ hk=>hk.2) (.slice an aj.length ao)) (fun _ hk=>⟨hk.1.1.1,⟨hk.1.1.2,hk.1.2⟩⟩),by(with_reducible repeat(first|apply rA|apply rN|apply rD));exact rM (rF (p:=⟨ab,1,none⟩) (rF (p:=⟨ab,0,none⟩) (rY bi.out aa.out (by decide)) (fun _ hk=>hk.2) (.slice al ae.length am)) (fun _ hk=>hk.2) (.slice an aj.length ao)) (fun _ hk=>⟨hk.1.1.2,hk.1.2⟩),zBw HB⟩
end Go.Proofs.Ytmegggomhjgehaa.PFnCoverConj
