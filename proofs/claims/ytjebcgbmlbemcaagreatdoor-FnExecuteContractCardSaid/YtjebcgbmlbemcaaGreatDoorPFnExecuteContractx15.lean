import Derived.Test.YtjebcgbmlbemcaaGreatDoorPFnExecuteContractx14
namespace Go.Proofs.YtjebcgbmlbemcaaGreatDoor.PFnExecuteContract
open Go.RowKit Go.Proofs.YtjebcgbmlbemcaaGreatDoorW.PrintWords Go.Proofs.YtjebcgbmlbemcaaGreatDoorW.PrintLast Go.Proofs.YtjebcgbmlbemcaaGreatDoorW.PrintMore
set_option maxHeartbeats 8000000
set_option maxRecDepth 100000
attribute [local go_sem] max2_int min2_int max_two min_two max_three min_three max_four min_four
set_option linter.unusedVariables false
set_option linter.unusedSimpArgs false
def s1d_.j0:Nat→Int→Bool→List Int→Int→Option (Int×Int)
  | 0,_,_,_,_=>none
  | k+1,x1,ah,ab,ac=>if ah=true then ((some (([(-1),x1]:List Int):List Int)).bind fun ag=>((s15_.f k ab ac 2).bind fun aa=>(if 0≤aa.1 then (if aa.1<(ag.length:Int) then (some (rd ag aa.1,aa.2)) else (none)) else (none)))) else ((s15_.f k ab ac x1).bind fun af=>(some (af.1,af.2)))
def s1d_.f (k:Nat) (s0_0:List Int) (s0_1:Int) (a1:Int):Option (Int×Int):=if a1=0 then (s1d_.j0 k a1 true s0_0 s0_1) else ((s15_.f k s0_0 s0_1 20).bind fun aa=>(s1d_.j0 k a1 (aa.1 == 0) s0_0 aa.2))
theorem s1d_.calls (k:Nat) (g:Nat) (s0_0:List Int) (s0_1:Int) (a1:Int) (r1:Int) (r2:Int) (w0 w:World) (hI:IsS76 w0 w g s0_0 s0_1) (hB:Below w0.heap.size w0 w) (h:s1d_.f k s0_0 s0_1 a1=some (r1,r2)) :
    Calls Tryz.prog 89 #[.pointer (some ⟨g,0,none⟩),.int .i64 a1] w fun e w'=>e = .returned (.int .i64 r1)∧IsS76 w0 w' g s0_0 r2∧Below w0.heap.size w0 w'∧KeepBut w w' g none:=by
 have HI0:=A0_ hI
 have HK:=A0_ (KeepBut.refl w g none)
 have HL:=A0_ hB.size;clear hI;have HW0:=A0_ hB.size;have HB:=A0_ hB;clear hB
 have H:(if a1=0 then (s1d_.j0 k a1 true s0_0 s0_1) else ((s15_.f k s0_0 s0_1 20).bind fun aq=>(s1d_.j0 k a1 (aq.1 == 0) s0_0 aq.2)))=some (r1,r2):=h
 clear h;have av:=A0_ H;clear H
 go_enter Tryz.func89,Tryz.ntmps89
 go_upto_region 1 with(fail)
 go_cut [11] (fun v11 wc => ∃ (kq:Nat) (ah:Bool) (aa:Int),v11 = .bool ah∧Aside0 (s1d_.j0 kq a1 ah s0_0 aa=some (r1,r2))∧Aside0 (kq≤k)∧Aside0 (IsS76 w0 wc g s0_0 aa)∧Aside0 (KeepBut w wc g none)∧Aside0 (Below w0.heap.size w0 wc))
 case first =>
  have H:=av.out;clear av
  by_cases c4:a1=0
  ·rw [if_pos c4] at H
   have aj:(a1 == 0)=true:=beq_iff_eq.mpr c4
   have aC:(a1 != 0)=false:=bne_eq_false_iff_eq.mpr c4
   clear c4
   (first|rw [aj]|(simp only [i64_w,i32_w];rw [aj])|skip)
   have H':=A0_ H;clear H
   go_wp2
   go_meet
   case rel=>exact⟨_,(true),(s0_1),zt,H',zo,⟨zIs HI0⟩,⟨zKp HK⟩,⟨zBw HB⟩⟩
  rw [if_neg c4] at H
  have aj:(a1 == 0)=false:=beq_eq_false_iff_ne.mpr c4
  have aC:(a1 != 0)=true:=bne_iff_ne.mpr c4
  (first|rw [aj]|(simp only [i64_w,i32_w];rw [aj])|skip)
  obtain⟨⟨aw,ax⟩,A5,H⟩:=zbind H;dsimp only at H;have H':=A0_ H;clear H
  go_wp2_with (first|(go_at_call 22;(with_reducible refine(s15_.calls k g s0_0 s0_1 20 aw ax w0 _ ?ac ?af A5.out).mono ?_);(case ac=>repeat(first|(with_reducible first|exact HI0.out|apply IsS76.alloc|apply IsS76.drewN|apply IsS76.drew|apply IsS76.set_1)|exact HI0.out));(case af=>repeat(first|(with_reducible first|exact HB.out|apply bA|apply bN|apply bD|refine bS ?_ (IsS76.ge HI0.out))|exact HB.out));rintro e w6 ⟨rfl,hi,hb,hk⟩;replace HK:=A0_ (KeepBut.trans (zKp HK) hk (.inl rfl));replace HB:=A0_ (hb);replace HI0:=A0_ (hi);(try clear hb)))
  go_meet
  case rel=>exact⟨_,((aw == 0)),(ax),zt,H',zo,⟨zIs HI0⟩,⟨zKp HK⟩,⟨zBw HB⟩⟩
 case rest =>
  clear av;obtain⟨kq,ah,aa,rfl,HA,aU,HI0,HK,HB⟩:=hcut
  cases kq with
  | zero=>exact absurd HA.out (by simp [s1d_.j0])
  | succ an =>
   have H:=HA.out;clear HA;simp only [s1d_.j0] at H
   by_cases c7:ah=true
   ·subst c7
    have H1:((some (([(-1),a1]:List Int):List Int)).bind fun ag=>((s15_.f an s0_0 aa 2).bind fun ab=>(if 0≤ab.1 then (if ab.1<(ag.length:Int) then (some (rd ag ab.1,ab.2)) else (none)) else (none))))=some (r1,r2):=by rw [if_pos rfl] at H;exact H
    clear H;have H:=H1;clear H1
    obtain⟨ag,al⟩ : ∃ y_:List Int,y_=(([(-1),a1]:List Int)):=⟨_,rfl⟩
    replace H:((s15_.f an s0_0 aa 2).bind fun ab=>(if 0≤ab.1 then (if ab.1<(ag.length:Int) then (some (rd ag ab.1,ab.2)) else (none)) else (none)))=some (r1,r2):=zH al H
    have ar:=A0_ al;clear al;obtain⟨⟨am,aD⟩,A8,H⟩:=zbind H;dsimp only at H
    have c9:=zpc H;replace H:=zph H
    have aM:=dT c9;clear c9
    have aA:=zpc H;replace H:=zph H
    have aJ:=dT aA;clear aA;simp only [Option.some.injEq,Prod.mk.injEq] at H;obtain⟨rfl,rfl⟩:=H
    go_wp2_with (first|((with_reducible refine gD (N:=13) rfl ?_);refine Kd.R_lit (Kd.int .i64) _ 3 ?hg (N:=13) ?hd (xs:=([(-1),a1]:List Int)) (inner := [.int .i64 (-1),.int .i64 a1]) (ok:=fun _=>True) (okp:=fun _=>True) ?hr ?hp (fun _ hk=>hk) trivial (Below.refl _ _) (Nat.le_refl _) (by simp) ?_;(case hd=>rfl);(case hg=>rfl);(case hr=>first|(go_simp;done)|(go_simp;rfl));(case hp=>exact(Reps.one (show Kd.M (Kd.int .i64) _ _ _ (-1) [.int .i64 (-1)] from rfl) (Reps.one (show Kd.M (Kd.int .i64) _ _ _ a1 [.int .i64 a1] from rfl) (Reps.none _ _))));intro aN w11 ak hb hg_ hnew_;clear hg_ hnew_;(first|rw [← ar.out] at ak|(simp only [Int.reduceToNat] at ak;rw [← ar.out] at ak));have ai:=A0_ (rL ak (keep_size (w:=w) (g:=g) (row:=none) (zKp HK)));replace HK:=A0_ (KeepBut.trans (zKp HK) (KeepBut.of_below hb g none) (.inl rfl));replace HB:=A0_ (bT (zBw HB) hb);replace HI0:=A0_ (IsS76.below (zIs HI0) hb);clear hb ak)|((with_reducible refine gC (f:=22) rfl ?_);refine zJ (some 15) Tryz.func22 #[.pointer (some ⟨g,0,none⟩),.int .i64 2] ?_;(with_reducible refine(s15_.calls an g s0_0 aa 2 am aD w0 _ ?ac ?af A8.out).mono ?_);(case ac=>repeat(first|(with_reducible first|exact HI0.out|apply IsS76.alloc|apply IsS76.drewN|apply IsS76.drew|apply IsS76.set_1)|exact HI0.out));(case af=>repeat(first|(with_reducible first|exact HB.out|apply bA|apply bN|apply bD|refine bS ?_ (IsS76.ge HI0.out))|exact HB.out));rintro e w13 ⟨rfl,hi,hb,hk⟩;refine⟨_,rfl,?_⟩;replace ai:=A0_ (rM (Kd.R_keep (IsS76.apart (show IsS76 w0 _ g s0_0 aa from zIs HI0) (zR_ ai) (by decide)) hk (fun _ h=>h.2)) (fun _ h=>h.1));replace HK:=A0_ (KeepBut.trans (zKp HK) hk (.inl rfl));replace HB:=A0_ (hb);replace HI0:=A0_ (hi);(try clear hb);obtain⟨aQ,aT,aE⟩:=rS ai.out;subst aE;have ao:0≤(am:Int):=zd;have ap:am<(ag.length:Int):=zd;obtain⟨aK,aG,aH⟩:=tI (rR ai.out).2.2 am ao ap;cases aG;replace ao:=eq_true ao;replace ap:=eq_true ap))
    go_ret
    exact⟨by first|rfl|(simp [*] <;> rfl),zIs HI0,zBw HB,zKp HK⟩
   replace c7:=Bool.eq_false_iff.mpr c7;subst c7
   have H1:((s15_.f an s0_0 aa a1).bind fun au=>(some (au.1,au.2)))=some (r1,r2):=by rw [if_neg (show ¬ (false=true) by decide)] at H;exact H
   clear H;have H:=H1;clear H1;obtain⟨⟨ay,az⟩,aI,H⟩:=zbind H
   replace H:(some (ay,az))=some (r1,r2):=H
   simp only [Option.some.injEq,Prod.mk.injEq] at H;obtain⟨rfl,rfl⟩:=H
   go_wp2_with (first|((with_reducible refine gC (f:=22) rfl ?_);refine zJ (some 20) Tryz.func22 #[.pointer (some ⟨g,0,none⟩),.int .i64 a1] ?_;(with_reducible refine(s15_.calls an g s0_0 aa a1 ay az w0 _ ?ac ?af aI.out).mono ?_);(case ac=>repeat(first|(with_reducible first|exact HI0.out|apply IsS76.alloc|apply IsS76.drewN|apply IsS76.drew|apply IsS76.set_1)|exact HI0.out));(case af=>repeat(first|(with_reducible first|exact HB.out|apply bA|apply bN|apply bD|refine bS ?_ (IsS76.ge HI0.out))|exact HB.out));rintro e w16 ⟨rfl,hi,hb,hk⟩;refine⟨_,rfl,?_⟩;replace HK:=A0_ (KeepBut.trans (zKp HK) hk (.inl rfl));replace HB:=A0_ (hb);replace HI0:=A0_ (hi);(try clear hb)))
   go_ret
   exact⟨by first|rfl|(simp [*] <;> rfl),zIs HI0,zBw HB,zKp HK⟩
def s1g_.f (k:Nat) (s0_0:List Int) (s0_1:Int):Option (List Int×List Int×Int×Int):=(s1e_.f k s0_0 s0_1 5).bind fun aa=>((s1d_.f k s0_0 aa.2.2 (wrap64 ((aa.2.1.length:Int) / 2))).bind fun ab=>(some (aa.1,aa.2.1,ab.1,ab.2)))
def s1g_.T2:Bool×List (List Nat×List Nat):=(true,[([],[]),([],[]),([],[]),([2],[2]),([3],[3]),([4],[4]),([1,5],[1,5]),([0,6,0],[0]),([6,7,0,1,2,3,4,5,6,7],[6])])
def s1g_.B2:List Nat := [0,0,0,4,12,28,62,127,255]
theorem s1g_.tab2:rtab .any (opsOf Tryz.f46 2)=s1g_.T2:=by kernel_rfl
theorem s1g_.bits2:waitsOk s1g_.T2.2 s1g_.B2=true:=by kernel_rfl
theorem s1g_.calls (k:Nat) (g:Nat) (s0_0:List Int) (s0_1:Int) (r1:List Int) (r2:List Int) (r3:Int) (r4:Int) (w0 w:World) (hI:IsS76 w0 w g s0_0 s0_1) (hB:Below w0.heap.size w0 w) (h:s1g_.f k s0_0 s0_1=some (r1,r2,r3,r4)) :
    Calls Tryz.prog 46 #[.pointer (some ⟨g,0,none⟩)] w fun e w' => ∃ v0_ v1_:Value,e = .returned (.tuple #[.agg #[v0_,v1_],.int .i64 r3])∧Kd.Q (Kd.int .i64) 3 w' w.heap.size (fun k_=>nO k_ v1_) v0_ r1∧Kd.R (Kd.int .i64) 3 w' w.heap.size (fun k_=>nO k_ v0_) v1_ r2∧IsS76 w0 w' g s0_0 r4∧Below w0.heap.size w0 w'∧KeepBut w w' g none:=by
 have a6:=Tryz.underlying25;have HI0:=A0_ hI
 have HK:=A0_ (KeepBut.refl w g none)
 have HL:=A0_ hB.size;clear hI;have HW0:=A0_ hB.size;have HB:=A0_ hB;clear hB
 have H:((s1e_.f k s0_0 s0_1 5).bind fun ar=>((s1d_.f k s0_0 ar.2.2 (wrap64 ((ar.2.1.length:Int) / 2))).bind fun aA=>(some (ar.1,ar.2.1,aA.1,aA.2))))=some (r1,r2,r3,r4):=h
 clear h;obtain⟨⟨af,ag,aq⟩,A2,H⟩:=zbind H;dsimp only at H;obtain⟨⟨aH,aI⟩,A3,H⟩:=zbind H;dsimp only at H;simp only [Option.some.injEq,Prod.mk.injEq] at H;obtain⟨rfl,rfl,rfl,rfl⟩:=H
 go_enter Tryz.func46,Tryz.ntmps46
 try go_wp2_with (first|((with_reducible refine gD (N:=2) rfl ?_);refine zX (N:=2) (cs := #[.slice none 0 0,.slice none 0 0]) (t:=25) ?_;intro ah hg w4 hbox hb;replace HB:=A0_ (bT (zBw HB) hb);have ab:=A0_ (hbox);have aY:=A0_ ((by rw [hg];exact(keep_size (w:=w) (g:=g) (row:=none) (zKp HK)):w.heap.size≤ah));have aC:=A0_ ((Nat.le_trans HW0.out (by rw [hg];exact(keep_size (w:=w) (g:=g) (row:=none) (zKp HK)):w.heap.size≤ah):w0.heap.size≤ah));replace HK:=A0_ (KeepBut.trans (zKp HK) (KeepBut.of_below hb g none) (.inl rfl));have au:=A0_ ((by rw [hg];exact Nat.ne_of_lt (IsS76.lt (show IsS76 w0 _ g s0_0 s0_1 from zIs HI0)):g≠ah));have av:=A0_ ((by rw [hg];exact Nat.ne_of_gt (IsS76.lt (show IsS76 w0 _ g s0_0 s0_1 from zIs HI0)):ah≠g));replace HI0:=A0_ (IsS76.below (zIs HI0) hb);clear hb hbox hg)|((with_reducible refine gC (f:=23) rfl ?_);refine zJ (some 6) Tryz.func23 #[.pointer (some ⟨g,0,none⟩),.int .i64 5] ?_;(with_reducible refine(s1e_.calls k g s0_0 s0_1 5 af ag aq w0 _ ?ay ?az A2.out).mono ?_);(case ay=>repeat(first|(with_reducible first|exact HI0.out|apply IsS76.alloc|apply IsS76.drewN|apply IsS76.drew|apply IsS76.set_1|refine IsS76.far ?_ au.out _)|exact HI0.out));(case az=>repeat(first|(with_reducible first|exact HB.out|apply bA|apply bN|apply bD|refine bS ?_ (IsS76.ge HI0.out)|refine bS ?_ aC.out)|exact HB.out));rintro e w5 ⟨a7,a8,rfl,aE,aG,hi,hb,hk⟩;refine⟨_,rfl,?_⟩;replace ab:=A0_ (KeepBut.blk hk (g':=ah) (o := .cells #[.slice none 0 0,.slice none 0 0] 25 (0,0)) (zK_ ab) av.out (by simp));have al:=A0_ (Kd.Q_lower aE (keep_size (w:=w) (g:=g) (row:=none) (zKp HK)));have am:=A0_ (rL aG (keep_size (w:=w) (g:=g) (row:=none) (zKp HK)));replace HK:=A0_ (KeepBut.trans (zKp HK) hk (.inl rfl));replace HB:=A0_ (hb);replace HI0:=A0_ (hi);(try clear hb);(try clear aE);(try clear aG))|((with_reducible refine gD (N:=4) rfl ?_);refine zX (N:=4) (cs := #[.slice none 0 0,.slice none 0 0]) (t:=25) ?_;intro aa hg w6 hbox hb;replace al:=A0_ (Kd.Q_below (zQ_ al) hb);replace am:=zR am hb;replace HB:=A0_ (bT (zBw HB) hb);have ac:=A0_ (hbox);have aZ:=A0_ ((by rw [hg];exact(keep_size (w:=w) (g:=g) (row:=none) (zKp HK)):w.heap.size≤aa));have aD:=A0_ ((Nat.le_trans HW0.out (by rw [hg];exact(keep_size (w:=w) (g:=g) (row:=none) (zKp HK)):w.heap.size≤aa):w0.heap.size≤aa));replace HK:=A0_ (KeepBut.trans (zKp HK) (KeepBut.of_below hb g none) (.inl rfl));have ap:=zL hg ab;have ak:=zM hg ab;replace ab:=zK ab hb;have aw:=A0_ ((by rw [hg];exact Nat.ne_of_lt (IsS76.lt (show IsS76 w0 _ g s0_0 aq from zIs HI0)):g≠aa));have ax:=A0_ ((by rw [hg];exact Nat.ne_of_gt (IsS76.lt (show IsS76 w0 _ g s0_0 aq from zIs HI0)):aa≠g));replace HI0:=A0_ (IsS76.below (zIs HI0) hb);clear hb hbox hg;obtain⟨an,ao,aX,_⟩:=Kd.Q_slice al.out;subst aX;have a9:=ak.out;have ba:=ap.out;have bb:=ax.out;have bc:=aw.out;have aK:=zc0 ac;have aM:=zc1 ac;have aN:=kF ac.out 0;have aQ:=kF ac.out 1;obtain⟨ai,aj,aJ⟩:=rS am.out;subst aJ))
 have n0_:Aside0 (Kd.Q (Kd.int .i64) 3 ((w6.setCell ⟨aa,0,none⟩ (.slice an af.length ao)).setCell ⟨aa,1,none⟩ (.slice ai ag.length aj)) w.heap.size (fun k_=>nL k_ ai ag aj) (.slice an af.length ao) af):=⟨by(with_reducible repeat(first|apply Kd.Q_alloc|apply Kd.Q_drewN|apply Kd.Q_drew));exact Kd.Q_mono (Kd.Q_far (p:=⟨aa,1,none⟩) (Kd.Q_far (p:=⟨aa,0,none⟩) (Kd.Q_types al.out ac.out (by decide)) (fun _ hk=>hk.2) (.slice an af.length ao)) (fun _ hk=>hk.2) (.slice ai ag.length aj)) (fun _ hk=>hk.1)⟩
 have n1_:Aside0 (Kd.R (Kd.int .i64) 3 ((w6.setCell ⟨aa,0,none⟩ (.slice an af.length ao)).setCell ⟨aa,1,none⟩ (.slice ai ag.length aj)) w.heap.size (fun k_=>nL k_ an af ao) (.slice ai ag.length aj) ag):=⟨zF am ac (.slice an af.length ao) (.slice ai ag.length aj) 0 1⟩
 have n2_:Aside0 (((w6.setCell ⟨aa,0,none⟩ (.slice an af.length ao)).setCell ⟨aa,1,none⟩ (.slice ai ag.length aj)).heap[ah]? = some (.cells #[.slice none 0 0,.slice none 0 0] 25 (0,0))):=⟨by refine zbf ?_ _ (hp:=by exact ap.out);refine zbf ?_ _ (hp:=by exact ap.out);exact zK_ ab⟩
 have n3_:Aside0 (((w6.setCell ⟨aa,0,none⟩ (.slice an af.length ao)).setCell ⟨aa,1,none⟩ (.slice ai ag.length aj)).heap[aa]? = some (.cells #[.slice an af.length ao,.slice ai ag.length aj] 25 (0,0))):=⟨by refine zbp (cs := #[.slice an af.length ao,.slice none 0 0]) ?_ 1 _ rfl;refine zbp (cs := #[.slice none 0 0,.slice none 0 0]) ?_ 0 _ rfl;exact zK_ ac⟩
 have n4_:Aside0 (IsS76 w0 ((w6.setCell ⟨aa,0,none⟩ (.slice an af.length ao)).setCell ⟨aa,1,none⟩ (.slice ai ag.length aj)) g s0_0 aq):=⟨zIs HI0⟩
 have n5_:Aside0 (KeepBut w ((w6.setCell ⟨aa,0,none⟩ (.slice an af.length ao)).setCell ⟨aa,1,none⟩ (.slice ai ag.length aj)) g none):=⟨zKp HK⟩
 have n6_:Aside0 (Below w0.heap.size w0 ((w6.setCell ⟨aa,0,none⟩ (.slice an af.length ao)).setCell ⟨aa,1,none⟩ (.slice ai ag.length aj))):=⟨zBw HB⟩
 (try clear al);(try clear am);(try clear ab);(try clear ac);(try clear HI0);(try clear HK);(try clear HB)
 generalize ((w6.setCell ⟨aa,0,none⟩ (.slice an af.length ao)).setCell ⟨aa,1,none⟩ (.slice ai ag.length aj))=w12 at n0_ n1_ n2_ n3_ n4_ n5_ n6_ ⊢
 have al:=n0_;have am:=n1_;have ab:=n2_;have ac:=n3_;have HI0:=n4_;have HK:=n5_;have HB:=n6_;clear n0_ n1_ n2_ n3_ n4_ n5_ n6_
 replace al:=A0_ (Kd.Q_drew al.out)
 replace am:=A0_ (rD am.out)
 replace ab:=A0_ (kD ab.out)
 replace ac:=A0_ (kD ac.out)
 replace HI0:=A0_ (IsS76.drew HI0.out)
 replace HK:=A0_ (keep_drew HK.out)
 replace HB:=A0_ (bD HB.out)
 refine start_ (n:=9) (S:=fun w'=>w'.cell? ⟨aa,0,none⟩=some (.slice an af.length ao)∧w'.cell? ⟨aa,1,none⟩=some (.slice ai ag.length aj)) (ds := []) (bs 9 0) (by kernel_rfl) rfl rfl ⟨(kC ac.out 0).trans rfl,(kC ac.out 1).trans rfl⟩ (fun hHeld => ?_);refine with_tabW s1g_.tab2 s1g_.bits2 (fun HT_ HW_ => ?_)
 generalize w12.drew=w13 at al am ab ac HI0 HK HB hHeld ⊢
 refine zP 1 (some 8) (bs 9 2) ?_
 refine zP 2 (some 9) (bs 9 6) ?_
 refine zT 0 (some 7) (bs 9 7) hHeld ?_
 refine zT 3 (some 10) (bs 9 15) hHeld ?_
 refine zP 4 (some 11) (bs 9 31) ?_
 refine zP 5 (some 12) (bs 9 63) ?_
 refine one_ (i:=6) (N:=some 13) (bs 9 127) rfl rfl (one_of HT_.out (by kernel_rfl)) (by decide) (fun K hK => ?_)
 refine zg Tryz.func89 #[.pointer (some ⟨g,0,none⟩),.int .i64 (wrap64 ((ag.length:Int) / 2))] ?_
 with_reducible refine(s1d_.calls k g s0_0 aq (wrap64 ((ag.length:Int) / 2)) aH aI w0 _ ?ay ?az A3.out).mono ?_
 (case ay=>repeat(first|(with_reducible first|exact HI0.out|apply IsS76.alloc|apply IsS76.drewN|apply IsS76.drew|apply IsS76.set_1|refine IsS76.far ?_ au.out _|refine IsS76.far ?_ aw.out _)|exact HI0.out))
 (case az=>repeat(first|(with_reducible first|exact HB.out|apply bA|apply bN|apply bD|refine bS ?_ (IsS76.ge HI0.out)|refine bS ?_ aC.out|refine bS ?_ aD.out)|exact HB.out))
 rintro e w14 ⟨rfl,hi,hb,hk⟩
 refine⟨_,rfl,?_⟩
 replace ab:=A0_ (KeepBut.blk hk (g':=ah) (o := .cells #[.slice none 0 0,.slice none 0 0] 25 (0,0)) (zK_ ab) av.out (by simp))
 replace al:=A0_ (Kd.Q_mono (Kd.Q_keep (IsS76.apartQ (show IsS76 w0 _ g s0_0 aq from zIs HI0) (zQ_ al) (by decide)) hk (fun _ h=>h.2)) (fun _ h=>h.1))
 replace am:=A0_ (rM (Kd.R_keep (IsS76.apart (show IsS76 w0 _ g s0_0 aq from zIs HI0) (zR_ am) (by decide)) hk (fun _ h=>h.2)) (fun _ h=>h.1))
 replace ac:=A0_ (KeepBut.blk hk (g':=aa) (o := .cells #[.slice an af.length ao,.slice ai ag.length aj] 25 (0,0)) (zK_ ac) ax.out (by simp))
 replace HK:=A0_ (KeepBut.trans (zKp HK) hk (.inl rfl))
 replace HB:=A0_ (hb)
 replace HI0:=A0_ (hi)
 (try clear hb);(try clear hk);(try clear hi)
 refine hK.out _ _ ⟨(kC ac.out 0).trans rfl,(kC ac.out 1).trans rfl⟩ (fun hHeld => ?_)
 clear hK K
 refine zN (some 13) ?_
 refine one_ (i:=7) (N:=none) (bs 9 255) rfl rfl (one_of HT_.out (by kernel_rfl)) (by decide) (fun K hK => ?_)
 have bd:w14.cell? ⟨ah,0,none⟩=some (.slice none 0 0):=(kC ab.out 0).trans rfl
 have a4:=kF ab.out 0;have aT:=ak.out;have aU:=ap.out
 have be:w14.cell? ⟨ah,1,none⟩=some (.slice none 0 0):=(kC ab.out 1).trans rfl
 have a5:=kF ab.out 1;have aV:=ak.out;have aW:=ap.out
 refine skip_ (w1 := ?_) (by rfl) rfl ?_ ?_
 rotate_left
 ·go_simp
  rfl
 refine hK.out _ _ ⟨((cell_far (p:=⟨ah,_,none⟩) ak.out _).trans (((cell_far (p:=⟨ah,_,none⟩) ak.out _).trans (hHeld.1)))),((cell_far (p:=⟨ah,_,none⟩) ak.out _).trans (((cell_far (p:=⟨ah,_,none⟩) ak.out _).trans (hHeld.2))))⟩ (fun hHeld => ?_)
 clear hK K
 refine zP 8 (some 3) (bs 9 511) ?_
 refine done_ (done_of HT_.out (by kernel_rfl)) ?_
 try go_wp2
 refine bodyPost_ret (results_ct rfl _ _ ah 25 #[.slice an af.length ao,.slice ai ag.length aj] (0,0) _ rfl (by refine zbp (cs := #[.slice an af.length ao,.slice none 0 0]) ?_ 1 _ rfl;refine zbp (cs := #[.slice none 0 0,.slice none 0 0]) ?_ 0 _ rfl;exact zK_ ab) Tryz.underlying25 rfl (by kernel_rfl)) rfl ?_
 exact⟨_,_,by first|rfl|(simp [*] <;> rfl),by(with_reducible repeat(first|apply Kd.Q_alloc|apply Kd.Q_drewN|apply Kd.Q_drew));exact Kd.Q_mono (Kd.Q_far (p:=⟨ah,1,none⟩) (Kd.Q_far (p:=⟨ah,0,none⟩) (Kd.Q_types al.out ab.out (by decide)) (fun _ hk=>hk.2) (.slice an af.length ao)) (fun _ hk=>hk.2) (.slice ai ag.length aj)) (fun _ hk=>hk.1),zF am ab (.slice an af.length ao) (.slice ai ag.length aj) 0 1,zIs HI0,zBw HB,zKp HK⟩
def st_.f (k:Nat) (l0:List Int):Option (List Int×List Int×Int):=(s14_.f l0).bind fun ab=>((s1g_.f k ab.1 ab.2).bind fun aa=>(some (aa.1,aa.2.1,aa.2.2.1)))
theorem st_.calls (k:Nat) (A0:Option Addr) (c0:Nat) (l0:List Int) (r1:List Int) (r2:List Int) (r3:Int) (w:World) (ay:Kd.C (Kd.int .u8) w A0 l0.length l0) (az:l0.length≤c0) (h:st_.f k l0=some (r1,r2,r3)) :
    Calls Tryz.prog 18 #[.slice A0 l0.length c0] w fun e w' => ∃ v0_ v1_:Value,e = .returned (.tuple #[.agg #[v0_,v1_],.int .i64 r3])∧Kd.Q (Kd.int .i64) 3 w' w.heap.size (fun k_=>nO k_ v1_) v0_ r1∧Kd.R (Kd.int .i64) 3 w' w.heap.size (fun k_=>nO k_ v0_) v1_ r2∧Below w.heap.size w w':=by
 have aU:=Tryz.underlying25;have aH:=A0_ ay;have aI:=A0_ az;clear ay az
 have HB:=A0_ (Below.refl w.heap.size w)
 have H:((s14_.f l0).bind fun an=>((s1g_.f k an.1 an.2).bind fun ah=>(some (ah.1,ah.2.1,ah.2.2.1))))=some (r1,r2,r3):=h
 clear h;obtain⟨⟨av,aw⟩,A2,H⟩:=zbind H;dsimp only at H;obtain⟨⟨ag,ai,aD,aE⟩,A3,H⟩:=zbind H;dsimp only at H;simp only [Option.some.injEq,Prod.mk.injEq] at H;obtain⟨rfl,rfl,rfl⟩:=H
 go_enter Tryz.func18,Tryz.ntmps18
 go_wp2_with (first|((with_reducible refine gD (N:=2) rfl ?_);refine zX (N:=2) (cs := #[.slice none 0 0,.slice none 0 0]) (t:=25) ?_;intro ab hg w4 hbox hb;have aa:=A0_ (hbox);have aT:=zG hg HB;have ao:=zG hg HB;replace HB:=zB HB hb;clear hb hbox hg)|((with_reducible refine gC (f:=21) rfl ?_);refine zJ (some 5) Tryz.func21 #[.slice A0 l0.length c0] ?_;(with_reducible refine(s14_.calls _ _ l0 av aw w _ ?aj ?ak ?ax A2.out).mono ?_);(case aj=>repeat(first|(with_reducible first|exact HB.out|apply bA|apply bN|apply bD|refine bS ?_ ao.out)|exact HB.out));(case ak=>exact aH.out);(case ax=>exact aI.out);rintro e w5 ⟨g447,rfl,hi,hb,hb2⟩;refine⟨_,rfl,?_⟩;replace HB:=A0_ (hb);have HI447:=A0_ (hi);have ac:=A0_ (IsS76.ne_blk hi (kB (g:=ab) (o := .cells #[.slice none 0 0,.slice none 0 0] 25 (0,0)) (zK_ aa) hb2) (by decide));have af:=A0_ (Ne.symm (IsS76.ne_blk hi (kB (g:=ab) (o := .cells #[.slice none 0 0,.slice none 0 0] 25 (0,0)) (zK_ aa) hb2) (by decide)));replace aa:=A0_ (kB (g:=ab) (o := .cells #[.slice none 0 0,.slice none 0 0] 25 (0,0)) (zK_ aa) hb2);(try clear hb))|((with_reducible refine gC (f:=46) rfl ?_);refine zJ (some 6) Tryz.func46 #[.pointer (some ⟨g447,0,none⟩)] ?_;(with_reducible refine(s1g_.calls k g447 av aw ag ai aD aE w _ ?aj ?ak A3.out).mono ?_);(case aj=>repeat(first|(with_reducible first|exact HI447.out|apply IsS76.alloc|apply IsS76.drewN|apply IsS76.drew|apply IsS76.set_1|refine IsS76.far ?_ ac.out _)|exact HI447.out));(case ak=>repeat(first|(with_reducible first|exact HB.out|apply bA|apply bN|apply bD|refine bS ?_ (IsS76.ge HI447.out)|refine bS ?_ ao.out)|exact HB.out));rintro e w6 ⟨aV,aW,rfl,aA,aC,hi,hb,hk⟩;refine⟨_,rfl,?_⟩;replace aa:=A0_ (KeepBut.blk hk (g':=ab) (o := .cells #[.slice none 0 0,.slice none 0 0] 25 (0,0)) (zK_ aa) af.out (by simp));have ap:=A0_ (Kd.Q_lower aA (bZ (zBw HB)));have aq:=A0_ (rL aC (bZ (zBw HB)));replace HB:=A0_ (hb);replace HI447:=A0_ (hi);(try clear hb);(try clear aA);(try clear aC);obtain⟨ar,au,aJ,_⟩:=Kd.Q_slice ap.out;subst aJ;have aX:=af.out;have aY:=ac.out;have aK:=zc0 aa;have aM:=zc1 aa;have aN:=kF aa.out 0;have aQ:=kF aa.out 1;obtain⟨al,am,aG⟩:=rS aq.out;subst aG))
 refine bodyPost_ret (results_ct rfl _ _ ab 25 #[.slice ar ag.length au,.slice al ai.length am] (0,0) _ rfl (by refine zbp (cs := #[.slice ar ag.length au,.slice none 0 0]) ?_ 1 _ rfl;refine zbp (cs := #[.slice none 0 0,.slice none 0 0]) ?_ 0 _ rfl;exact zK_ aa) Tryz.underlying25 rfl (by kernel_rfl)) rfl ?_
 exact⟨_,_,by first|rfl|(simp [*] <;> rfl),by(with_reducible repeat(first|apply Kd.Q_alloc|apply Kd.Q_drewN|apply Kd.Q_drew));exact Kd.Q_mono (Kd.Q_far (p:=⟨ab,1,none⟩) (Kd.Q_far (p:=⟨ab,0,none⟩) (Kd.Q_types ap.out aa.out (by decide)) (fun _ hk=>hk.2) (.slice ar ag.length au)) (fun _ hk=>hk.2) (.slice al ai.length am)) (fun _ hk=>hk.1),zF aq aa (.slice ar ag.length au) (.slice al ai.length am) 0 1,zBw HB⟩
def s17_.l0:Nat→List Int→Int→Int→List Int→List Int→Option (List Int)
  | 0,_,_,_,_,_=>none
  | k+1,x3,x4,x5,ab,aa=>if x5<(x3.length:Int) then (if 0≤x5 then (if x5<(aa.length:Int) then (if x5<(rd aa x5) then (if 0≤(rd aa x5) then (if (rd aa x5)<(x3.length:Int) then (s17_.l0 k ((x3.set (x5:Int).toNat x4).set ((rd aa x5):Int).toNat x4) (wrap64 (x4+1)) (wrap64 (x5+1)) ab aa) else (none)) else (none)) else (s17_.l0 k x3 x4 (wrap64 (x5+1)) ab aa)) else (none)) else (none)) else (some x3)
def s17_.f (k:Nat) (ab:List Int) (aa:List Int):Option (List Int):=if 0≤(aa.length:Int) then (if ((aa.length:Int):Int).toNat≤35184372088832 then (s17_.l0 k (List.replicate ((aa.length:Int):Int).toNat 0) 0 0 ab aa) else (none)) else (none)
theorem s17_.calls (k:Nat) (am:Option Addr) (an:Nat) (ag:List Int) (av:Option Addr) (ao:Nat) (ac:List Int) (r:List Int) (w:World) (aJ:Kd.C (Kd.int .i64) w am ag.length ag) (aK:ag.length≤an) (aM:Kd.C (Kd.int .i64) w av ac.length ac) (aN:ac.length≤ao) (h:s17_.f k ag ac=some r) :
    Calls Tryz.prog 94 #[.agg #[.slice am ag.length an,.slice av ac.length ao]] w fun e w' => ∃ v0_:Value,e = .returned (v0_)∧Kd.R (Kd.int .i64) 3 w' w.heap.size (fun _=>True) v0_ r∧Below w.heap.size w w':=by
 have b5:=Tryz.underlying25;have bP:=A0_ aJ;have bQ:=A0_ aK;clear aJ aK;have aw:=A0_ aM;have bR:=A0_ aN;clear aM aN
 have HB:=A0_ (Below.refl w.heap.size w)
 have H:(if 0≤(ac.length:Int) then (if ((ac.length:Int):Int).toNat≤35184372088832 then (s17_.l0 k (List.replicate ((ac.length:Int):Int).toNat 0) 0 0 ag ac) else (none)) else (none))=some r:=h
 clear h
 have c2:=zpc H;replace H:=zph H
 have bi:=eq_true c2;have bj:=dT c2;clear c2
 have c3:=zpc H;replace H:=zph H
 have bk:=eq_true c3;have bl:=dT c3;clear c3
 obtain⟨aU,ax⟩ : ∃ y_:List Int,y_=(List.replicate ((ac.length:Int):Int).toNat 0):=⟨_,rfl⟩
 replace H:(s17_.l0 k aU 0 0 ag ac)=some r:=zH ax H
 have aQ:=A0_ ax;clear ax;have H':=A0_ H;clear H
 go_enter Tryz.func94,Tryz.ntmps94
 go_wp2_with (first|((with_reducible refine gD (N:=1) rfl ?_);refine zX (N:=1) (cs := #[.slice am ag.length an,.slice av ac.length ao]) (t:=25) ?_;intro ay hg w4 hbox hb;have aa:=A0_ (hbox);have bU:=zG hg HB;have bV:=zG hg HB;replace HB:=zB HB hb;clear hb hbox hg;have aV:=zc0 aa;have aW:=zc1 aa;have aX:=kF aa.out 0;have aY:=kF aa.out 1)|((with_reducible refine gD (N:=9) rfl ?_);refine Kd.R_make (Kd.int .i64) _ 3 rfl (N:=9) rfl 23 _ _ rfl (ac.length:Int) rfl rfl Tryz.underlying23 (.int .i64 0) 8 info3 rfl (by decide) (by omega) 0 (ok:=fun _=>True) (okp:=fun _=>True) rfl (fun _ hk=>hk) trivial (zd) (Nat.le_trans (Nat.mul_le_mul_right _ (zd:(ac.length:Int).toNat≤35184372088832)) (by omega)) (Below.refl _ _) (Nat.le_refl _) ?_;intro bm w6 aC hb hg_ hnew_;clear hg_ hnew_;(first|rw [← aQ.out] at aC|(simp only [Int.reduceToNat] at aC;rw [← aQ.out] at aC));have ba:=A0_ (rL aC (bZ (zB_ HB)));replace aa:=zK aa hb;replace HB:=zB HB hb;clear hb aC))
 go_loopg [4,5] k (fun kq v4 v5 w' => ∃ (aj:List Int) (ah:Int) (ab:Int),v4 = .int .i64 ah∧v5 = .int .i64 ab∧Aside0 (s17_.l0 kq aj ah ab ag ac=some r)∧Aside0 (kq≤k)∧Aside0 (Kd.R (Kd.int .i64) 3 w' w.heap.size (fun _=>True) bm aj)∧Aside0 (w'.heap[ay]? = some (.cells #[(.slice am ag.length an),(.slice av ac.length ao)] 25 (0,0)))∧Aside0 (Below w.heap.size w w'))
 case atStart=>exact⟨(aU),(0),(0),zt,zt,H',⟨Nat.le_refl _⟩,⟨zR_ ba⟩,⟨zK_ aa⟩,⟨zB_ HB⟩⟩
 case round =>
  clear H';(try clear c2);(try clear bi);(try clear bj);(try clear c3);(try clear bk);(try clear bl);(try clear aV);(try clear aW);(try clear aX);(try clear aY);obtain⟨aj,ah,ab,rfl,rfl,HA,aT,af,aa,HB⟩:=hrel
  cases gk with
  | zero=>exact absurd HA.out (by simp [s17_.l0])
  | succ k1 =>
   have H:=HA.out;clear HA;simp only [s17_.l0] at H
   by_cases c8:ab<(aj.length:Int)
   ·rw [if_pos c8] at H
    have bn:=dT c8;clear c8
    have c9:=zpc H;replace H:=zph H
    have b6:=dT c9;clear c9
    have bf:=zpc H;replace H:=zph H
    have bW:=dT bf;clear bf
    by_cases au:ab<(rd ac ab)
    ·rw [if_pos au] at H
     have bb:=dT au;clear au
     obtain⟨aD,az⟩ : ∃ y_:List Int,y_=(aj.set (ab:Int).toNat ah):=⟨_,rfl⟩
     replace H:(if 0≤(rd ac ab) then (if (rd ac ab)<(aj.length:Int) then (s17_.l0 k1 (aD.set ((rd ac ab):Int).toNat ah) (wrap64 (ah+1)) (wrap64 (ab+1)) ag ac) else (none)) else (none))=some r:=zH az H
     have bc:=A0_ az;clear az
     have bg:=zpc H;replace H:=zph H
     have bX:=dT bg;clear bg
     have bh:=zpc H;replace H:=zph H
     have bY:=dT bh;clear bh
     obtain⟨aE,aA⟩ : ∃ y_:List Int,y_=(aD.set ((rd ac ab):Int).toNat ah):=⟨_,rfl⟩
     replace H:(s17_.l0 k1 aE (wrap64 (ah+1)) (wrap64 (ab+1)) ag ac)=some r:=zH aA H
     have bd:=A0_ aA;clear aA;have H':=A0_ H;clear H;obtain⟨b7,aZ,bo⟩:=rS af.out;subst bo;have bu:=zc0 aa;have bv:=zc1 aa;have bx:=kF aa.out 0;have bz:=kF aa.out 1
     have ak:0≤(ab:Int):=zd
     have al:ab<(ac.length:Int):=zd
     obtain⟨ar,aG,ai⟩:=tI aw.out ab ak al
     cases aG
     try replace ai:=(HB.out.cell (wL w _ ai)).trans ai
     replace ak:=eq_true ak;replace al:=eq_true al
     have a4:0≤(ab:Int):=zd
     have a5:(ab:Int)<((aj.length:Int):Int):=zd
     obtain⟨ap,b8,a6,a7,gl12,cl12,HG12⟩:=Kd.R_form af.out (by omega)
     (first|cases a6|(injection a6 with ea_ en_ ec_;(first|subst ea_|(injection ea_ with ea_;subst ea_));subst ec_;clear en_))
     have GB12:=A0_ a7;have GG12:=A0_ HG12;clear a7 gl12 HG12
     obtain⟨bK,bL⟩:=Kd.R_celln 0 af.out (ab:Int) a4 a5
     replace a4:=eq_true a4;replace a5:=eq_true a5
     have HP18:=Kd.R_putg af.out (ab:Int) ah
     go_wp2_with (first|((with_reducible refine gS (t:=3) (p:=26) rfl ?_);refine store_event (t:=3) (p:=26) (v := ?vo_w19) (w1:=(wr.setCell ⟨ap,(ab:Int).toNat,none⟩ (.int .i64 ah))) ?hg ?ho ?hn ?hr ?_;(case ho=>rfl);(case hg=>rfl);(case hn=>rfl);(case hr=>first|(go_simp;done)|(go_simp;rfl));intro w19 hw;have hg:wr.grownBy w19 (some ap):=(by rw [hw];exact HP18.2);have hp_:Kd.R (Kd.int .i64) 3 w19 w.heap.size (fun _=>True) (.slice (some ⟨ap,0,none⟩) aj.length aZ) aD:=(by rw [hw,bc.out];exact HP18.1);clear HP18;replace aa:=A0_ (blk_grown (g:=ay) (o := .cells #[.slice am ag.length an,.slice (some ar) ac.length ao] 25 (0,0)) (zK_ aa) hg (Kd.R_ne af.out aa.out (by decide)));replace af:=A0_ (hp_);replace HB:=A0_ ((by rw [hw];exact bS (HB.out) GB12.out:Below w.heap.size w w19));clear hg hw hp_;have bB:=zc0 aa;have bC:=zc1 aa;have bE:=kF aa.out 0;have bF:=kF aa.out 1;have aH:0≤(ab:Int):=zd;have aI:ab<(ac.length:Int):=zd;obtain⟨be,bp,aq⟩:=tI aw.out ab aH aI;obtain rfl:ar=be:=(by injection bp);try replace aq:=(HB.out.cell (wL w _ aq)).trans aq;replace aH:=eq_true aH;replace aI:=eq_true aI;have a8:0≤((rd ac ab):Int):=zd;have a9:((rd ac ab):Int)<((aj.length:Int):Int):=zd;obtain⟨bM,bO⟩:=Kd.R_celln 0 af.out ((rd ac ab):Int) a8 a9;replace a8:=eq_true a8;replace a9:=eq_true a9;obtain⟨hy21_,hz21_⟩:=Kd.R_celln 0 af.out ((rd ac ab):Int) (zd) (zd);have HP21:=Kd.R_putg af.out ((rd ac ab):Int) ah)|((with_reducible refine gS (t:=3) (p:=34) rfl ?_);refine store_event (t:=3) (p:=34) (v := ?vo_w22) (w1:=(w19.setCell ⟨ap,((rd ac ab):Int).toNat,none⟩ (.int .i64 ah))) ?hg ?ho ?hn ?hr ?_;(case ho=>rfl);(case hg=>rfl);(case hn=>rfl);(case hr=>first|(go_simp;done)|(go_simp;rfl));intro w22 hw;have hg:w19.grownBy w22 (some ap):=(by rw [hw];exact HP21.2);have hp_:Kd.R (Kd.int .i64) 3 w22 w.heap.size (fun _=>True) (.slice (some ⟨ap,0,none⟩) aj.length aZ) aE:=(by rw [hw,bd.out];exact HP21.1);clear HP21;replace aa:=A0_ (blk_grown (g:=ay) (o := .cells #[.slice am ag.length an,.slice (some ar) ac.length ao] 25 (0,0)) (zK_ aa) hg (Kd.R_ne af.out aa.out (by decide)));replace af:=A0_ (hp_);replace HB:=A0_ ((by rw [hw];exact bS (HB.out) GB12.out:Below w.heap.size w w22));clear hg hw hp_))
     go_roundg k1
     case measure=>have:=aT.out;omega
     case rel=>exact⟨(aE),(wrap64 (ah+1)),(wrap64 (ab+1)),zt,zt,H',⟨by have:=aT.out;omega⟩,⟨zR_ af⟩,⟨zK_ aa⟩,⟨zB_ HB⟩⟩
    rw [if_neg au] at H;have bb:=dF au;clear au;have H':=A0_ H;clear H;obtain⟨b9,cd,bq⟩:=rS af.out;subst bq;have bG:=zc0 aa;have bH:=zc1 aa;have bI:=kF aa.out 0;have bJ:=kF aa.out 1
    have ak:0≤(ab:Int):=zd
    have al:ab<(ac.length:Int):=zd
    obtain⟨ar,aG,ai⟩:=tI aw.out ab ak al
    cases aG
    try replace ai:=(HB.out.cell (wL w _ ai)).trans ai
    replace ak:=eq_true ak;replace al:=eq_true al
    go_wp2
    go_roundg k1
    case measure=>have:=aT.out;omega
    case rel=>exact⟨(aj),(ah),(wrap64 (ab+1)),zt,zt,H',⟨by have:=aT.out;omega⟩,⟨zR_ af⟩,⟨zK_ aa⟩,⟨zB_ HB⟩⟩
   rw [if_neg c8] at H;have bn:=dF c8;clear c8;obtain rfl:=sI H;obtain⟨ce,cf,br⟩:=rS af.out;subst br
   go_wp2
   go_ret
   exact⟨_,by first|rfl|(simp [*] <;> rfl),zR_ af,zB_ HB⟩
def s16_.l0:Nat→Int→List Int→Int→Option (Int)
  | 0,_,_,_=>none
  | k+1,x1,x5,x6=>if x6<(x5.length:Int) then (if 0≤x6 then (if (rd x5 x6)=x1 then (some x6) else (s16_.l0 k x1 x5 (wrap64 (x6+1)))) else (none)) else (some (-1))
def s16_.f (k:Nat) (aa:List Int) (ab:List Int) (a1:Int):Option (Int):=(s17_.f k aa ab).bind fun ac=>(s16_.l0 k a1 ac 0)
theorem s16_.calls (k:Nat) (ak:Option Addr) (al:Nat) (af:List Int) (am:Option Addr) (an:Nat) (ag:List Int) (a1:Int) (r:Int) (w:World) (ap:Kd.C (Kd.int .i64) w ak af.length af) (aq:af.length≤al) (ar:Kd.C (Kd.int .i64) w am ag.length ag) (au:ag.length≤an) (h:s16_.f k af ag a1=some r) :
    Calls Tryz.prog 52 #[.agg #[.slice ak af.length al,.slice am ag.length an],.int .i64 a1] w fun e w'=>e = .returned (.int .i64 r)∧Below w.heap.size w w':=by
 have a7:=Tryz.underlying25;have aA:=A0_ ap;have aC:=A0_ aq;clear ap aq;have aD:=A0_ ar;have aE:=A0_ au;clear ar au
 have HB:=A0_ (Below.refl w.heap.size w)
 have H:((s17_.f k af ag).bind fun ab=>(s16_.l0 k a1 ab 0))=some r:=h
 clear h;obtain⟨ab,A3,H⟩:=zbind H;have H':=A0_ H;clear H
 go_enter Tryz.func52,Tryz.ntmps52
 go_wp2_with (first|((with_reducible refine gD (N:=2) rfl ?_);refine zX (N:=2) (cs := #[.slice ak af.length al,.slice am ag.length an]) (t:=25) ?_;intro aG hg w4 hbox hb;have ac:=A0_ (hbox);have a5:=zG hg HB;have a6:=zG hg HB;replace HB:=zB HB hb;clear hb hbox hg;have aw:=zc0 ac;have ax:=zc1 ac;have ay:=kF ac.out 0;have az:=kF ac.out 1)|((with_reducible refine gC (f:=94) rfl ?_);refine zJ (some 8) Tryz.func94 #[.agg #[.slice ak af.length al,.slice am ag.length an]] ?_;(with_reducible refine(s17_.calls k _ _ af _ _ ag ab _ ?aH ?aI ?aJ ?aK A3.out).mono ?_);(case aH=>exact zC aA HB);(case aI=>exact aC.out);(case aJ=>exact zC aD HB);(case aK=>exact aE.out);rintro e w6 ⟨aU,rfl,aQ,hb⟩;refine⟨_,rfl,?_⟩;have aM:=A0_ (rL aQ (bZ (zB_ HB)));replace ac:=zK ac hb;replace HB:=zB HB hb;(try clear hb);(try clear aQ)))
 go_loopg [6] k (fun kq v6 w' => ∃ (aa:Int),v6 = .int .i64 aa∧Aside0 (s16_.l0 kq a1 ab aa=some r)∧Aside0 (kq≤k)∧Aside0 (Kd.R (Kd.int .i64) 3 w' w.heap.size (fun _=>True) aU ab)∧Aside0 (w'.heap[aG]? = some (.cells #[(.slice ak af.length al),(.slice am ag.length an)] 25 (0,0)))∧Aside0 (Below w.heap.size w w'))
 case atStart=>exact⟨(0),zt,H',⟨Nat.le_refl _⟩,⟨zR_ aM⟩,⟨zK_ ac⟩,⟨zB_ HB⟩⟩
 case round =>
  clear H';(try clear aw);(try clear ax);(try clear ay);(try clear az);obtain⟨aa,rfl,HA,aT,aj,ac,HB⟩:=hrel
  cases gk with
  | zero=>exact absurd HA.out (by simp [s16_.l0])
  | succ k1 =>
   have H:=HA.out;clear HA;simp only [s16_.l0] at H
   by_cases c7:aa<(ab.length:Int)
   ·rw [if_pos c7] at H
    have aV:=dT c7;clear c7
    have c8:=zpc H;replace H:=zph H
    have a8:=dT c8;clear c8
    by_cases c9:(rd ab aa)=a1
    ·rw [if_pos c9] at H
     have aW:((rd ab aa) == a1)=true:=beq_iff_eq.mpr c9
     have aX:((rd ab aa) != a1)=false:=bne_eq_false_iff_eq.mpr c9
     clear c9;obtain rfl:=sI H;obtain⟨a9,ba,aY⟩:=rS aj.out;subst aY
     have ah:0≤(aa:Int):=zd
     have ai:aa<(ab.length:Int):=zd
     obtain⟨aN,ao,av⟩:=tI (rR aj.out).2.2 aa ah ai
     cases ao
     replace ah:=eq_true ah;replace ai:=eq_true ai
     go_wp2
     go_ret
     exact⟨by first|rfl|(simp [*] <;> rfl),zB_ HB⟩
    rw [if_neg c9] at H
    have aW:((rd ab aa) == a1)=false:=beq_eq_false_iff_ne.mpr c9
    have aX:((rd ab aa) != a1)=true:=bne_iff_ne.mpr c9
    have H':=A0_ H;clear H;obtain⟨bb,bc,aZ⟩:=rS aj.out;subst aZ
    have ah:0≤(aa:Int):=zd
    have ai:aa<(ab.length:Int):=zd
    obtain⟨aN,ao,av⟩:=tI (rR aj.out).2.2 aa ah ai
    cases ao
    replace ah:=eq_true ah;replace ai:=eq_true ai
    go_wp2
    go_roundg k1
    case measure=>have:=aT.out;omega
    case rel=>exact⟨(wrap64 (aa+1)),zt,H',⟨by have:=aT.out;omega⟩,⟨zR_ aj⟩,⟨zK_ ac⟩,⟨zB_ HB⟩⟩
   rw [if_neg c7] at H;have aV:=dF c7;clear c7;obtain rfl:=sI H;obtain⟨bd,be,a4⟩:=rS aj.out;subst a4
   go_wp2
   go_ret
   exact⟨by first|rfl|(simp [*] <;> rfl),zB_ HB⟩
def s18_.l0:Nat→List Int→Int→Int→Option (Bool)
  | 0,_,_,_=>none
  | k+1,x0,x1,x5=>if x5<(x0.length:Int) then (if 0≤x5 then (if (rd x0 x5)=x1 then (some true) else (s18_.l0 k x0 x1 (wrap64 (x5+1)))) else (none)) else (some false)
def s18_.f (k:Nat) (l0:List Int) (a1:Int):Option (Bool):=s18_.l0 k l0 a1 0
theorem s18_.calls (k:Nat) (A0:Option Addr) (c0:Nat) (l0:List Int) (a1:Int) (r:Bool) (w:World) (ai:Kd.C (Kd.int .i64) w A0 l0.length l0) (aj:l0.length≤c0) (h:s18_.f k l0 a1=some r) :
    Calls Tryz.prog 118 #[.slice A0 l0.length c0,.int .i64 a1] w fun e w'=>e = .returned (.bool r)∧Drawn0 w w':=by
 have ak:=A0_ ai;have aq:=A0_ aj;clear ai aj
 have H:(s18_.l0 k l0 a1 0)=some r:=h
 clear h;have H':=A0_ H;clear H
 go_enter Tryz.func118,Tryz.ntmps118
 go_wp2
 go_loopg [5] k (fun kq v5 w' => ∃ (aa:Int),v5 = .int .i64 aa∧Aside0 (s18_.l0 kq l0 a1 aa=some r)∧Aside0 (kq≤k)∧Drawn0 w w')
 case atStart=>exact⟨(0),zt,H',⟨Nat.le_refl _⟩,by repeat(first|exact Drawn0.refl _|apply Drawn0.step)⟩
 case round =>
  clear H';obtain⟨aa,rfl,HA,al,⟨m1,rfl⟩⟩:=hrel
  cases gk with
  | zero=>exact absurd HA.out (by simp [s18_.l0])
  | succ k1 =>
   have H:=HA.out;clear HA;simp only [s18_.l0] at H
   by_cases c3:aa<(l0.length:Int)
   ·rw [if_pos c3] at H
    have am:=dT c3;clear c3
    have c4:=zpc H;replace H:=zph H
    have ap:=dT c4;clear c4
    by_cases c5:(rd l0 aa)=a1
    ·rw [if_pos c5] at H
     have an:((rd l0 aa) == a1)=true:=beq_iff_eq.mpr c5
     have ao:((rd l0 aa) != a1)=false:=bne_eq_false_iff_eq.mpr c5
     clear c5;obtain rfl:=sI H
     have ab:0≤(aa:Int):=zd
     have ac:aa<(l0.length:Int):=zd
     obtain⟨ah,af,ag⟩:=tI ak.out aa ab ac
     cases af
     replace ab:=eq_true ab;replace ac:=eq_true ac
     go_wp2
     go_ret
     exact⟨by first|rfl|(simp;done)|(simp [*];done),by repeat(first|exact Drawn0.refl _|apply Drawn0.step)⟩
    rw [if_neg c5] at H
    have an:((rd l0 aa) == a1)=false:=beq_eq_false_iff_ne.mpr c5
    have ao:((rd l0 aa) != a1)=true:=bne_iff_ne.mpr c5
    have H':=A0_ H;clear H
    have ab:0≤(aa:Int):=zd
    have ac:aa<(l0.length:Int):=zd
    obtain⟨ah,af,ag⟩:=tI ak.out aa ab ac
    cases af
    replace ab:=eq_true ab;replace ac:=eq_true ac
    go_wp2
    go_roundg k1
    case measure=>have:=al.out;omega
    case rel=>exact⟨(wrap64 (aa+1)),zt,H',⟨by have:=al.out;omega⟩,by repeat(first|exact Drawn0.refl _|apply Drawn0.step)⟩
   rw [if_neg c3] at H;have am:=dF c3;clear c3;obtain rfl:=sI H
   go_wp2
   go_ret
   exact⟨by first|rfl|(simp;done)|(simp [*];done),by repeat(first|exact Drawn0.refl _|apply Drawn0.step)⟩
end Go.Proofs.YtjebcgbmlbemcaaGreatDoor.PFnExecuteContract
