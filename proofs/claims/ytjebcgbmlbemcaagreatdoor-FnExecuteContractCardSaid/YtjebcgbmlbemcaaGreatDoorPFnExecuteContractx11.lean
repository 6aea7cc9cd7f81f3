import Derived.Test.YtjebcgbmlbemcaaGreatDoorPFnExecuteContractx10
namespace Go.Proofs.YtjebcgbmlbemcaaGreatDoor.PFnExecuteContract
open Go.RowKit Go.Proofs.YtjebcgbmlbemcaaGreatDoorW.PrintWords Go.Proofs.YtjebcgbmlbemcaaGreatDoorW.PrintLast Go.Proofs.YtjebcgbmlbemcaaGreatDoorW.PrintMore
set_option maxHeartbeats 8000000
set_option maxRecDepth 100000
attribute [local go_sem] max2_int min2_int max_two min_two max_three min_three max_four min_four
set_option linter.unusedVariables false
set_option linter.unusedSimpArgs false
def lj_.f (k:Nat) (af:List Int) (ag:List Int):Option (ByteArray):=(lh_.f k (af.length:Int)).bind fun aa=>(if 4+aa.size≤9223372036854775807 then (if ((⟨#[109,97,112,32]⟩:ByteArray) ++ aa).size+1≤9223372036854775807 then ((i7_.f k af).bind fun ab=>(if (((⟨#[109,97,112,32]⟩:ByteArray) ++ aa) ++ (⟨#[32]⟩:ByteArray)).size+ab.size≤9223372036854775807 then (if ((((⟨#[109,97,112,32]⟩:ByteArray) ++ aa) ++ (⟨#[32]⟩:ByteArray)) ++ ab).size+1≤9223372036854775807 then ((i7_.f k ag).bind fun ac=>(if (((((⟨#[109,97,112,32]⟩:ByteArray) ++ aa) ++ (⟨#[32]⟩:ByteArray)) ++ ab) ++ (⟨#[32]⟩:ByteArray)).size+ac.size≤9223372036854775807 then (if ((((((⟨#[109,97,112,32]⟩:ByteArray) ++ aa) ++ (⟨#[32]⟩:ByteArray)) ++ ab) ++ (⟨#[32]⟩:ByteArray)) ++ ac).size+1≤9223372036854775807 then (some (((((((⟨#[109,97,112,32]⟩:ByteArray) ++ aa) ++ (⟨#[32]⟩:ByteArray)) ++ ab) ++ (⟨#[32]⟩:ByteArray)) ++ ac) ++ (⟨#[10]⟩:ByteArray))) else (none)) else (none))) else (none)) else (none))) else (none)) else (none))
def lj_.T1:Bool×List (List Nat×List Nat):=(true,[([],[]),([0],[0]),([1],[1]),([2],[2]),([3],[3]),([4],[4]),([],[]),([6],[6]),([7,3],[7]),([5,8],[5,8]),([9],[9]),([],[]),([11],[11]),([12,8],[12]),([10,13],[10,13]),([14],[14]),([15,13,0,1,2,3,4,5,6,7,8,9,10,11,12,13,14,15],[15])])
def lj_.B1:List Nat := [0,1,3,7,15,31,0,64,207,511,1023,0,2048,6607,16383,32767,65535]
theorem lj_.tab1:rtab .any (opsOf Tryz.f11 1)=lj_.T1:=by kernel_rfl
theorem lj_.bits1:waitsOk lj_.T1.2 lj_.B1=true:=by kernel_rfl
theorem lj_.calls (k:Nat) (ai:Option Addr) (aj:Nat) (af:List Int) (ak:Option Addr) (al:Nat) (ag:List Int) (r:ByteArray) (w:World) (ao:Kd.C (Kd.int .i64) w ai af.length af) (ap:af.length≤aj) (aq:Kd.C (Kd.int .i64) w ak ag.length ag) (ar:ag.length≤al) (h:lj_.f k af ag=some r) :
    Calls Tryz.prog 11 #[.agg #[.slice ai af.length aj,.slice ak ag.length al]] w fun e w'=>e = .returned (.string r)∧Below w.heap.size w w':=by
 have aV:=Tryz.underlying25;have az:=A0_ ao;have aA:=A0_ ap;clear ao ap;have aC:=A0_ aq;have aD:=A0_ ar;clear aq ar
 have HB:=A0_ (Below.refl w.heap.size w)
 have H:((lh_.f k (af.length:Int)).bind fun ah=>(if 4+ah.size≤9223372036854775807 then (if ((⟨#[109,97,112,32]⟩:ByteArray) ++ ah).size+1≤9223372036854775807 then ((i7_.f k af).bind fun ac=>(if (((⟨#[109,97,112,32]⟩:ByteArray) ++ ah) ++ (⟨#[32]⟩:ByteArray)).size+ac.size≤9223372036854775807 then (if ((((⟨#[109,97,112,32]⟩:ByteArray) ++ ah) ++ (⟨#[32]⟩:ByteArray)) ++ ac).size+1≤9223372036854775807 then ((i7_.f k ag).bind fun aa=>(if (((((⟨#[109,97,112,32]⟩:ByteArray) ++ ah) ++ (⟨#[32]⟩:ByteArray)) ++ ac) ++ (⟨#[32]⟩:ByteArray)).size+aa.size≤9223372036854775807 then (if ((((((⟨#[109,97,112,32]⟩:ByteArray) ++ ah) ++ (⟨#[32]⟩:ByteArray)) ++ ac) ++ (⟨#[32]⟩:ByteArray)) ++ aa).size+1≤9223372036854775807 then (some (((((((⟨#[109,97,112,32]⟩:ByteArray) ++ ah) ++ (⟨#[32]⟩:ByteArray)) ++ ac) ++ (⟨#[32]⟩:ByteArray)) ++ aa) ++ (⟨#[10]⟩:ByteArray))) else (none)) else (none))) else (none)) else (none))) else (none)) else (none)))=some r:=h
 clear h;obtain⟨ah,A2,H⟩:=zbind H
 have c3:=zpc H;replace H:=zph H
 have aW:=eq_true c3;have aX:=dT c3
 try have aY:(9223372036854775807<4+ah.size)=False:=eq_false (Nat.not_lt.2 c3)
 obtain⟨zs4,hzs4⟩ : ∃ j_:ByteArray,((⟨#[109,97,112,32]⟩:ByteArray) ++ ah)=j_:=⟨_,rfl⟩
 replace H:(if zs4.size+1≤9223372036854775807 then ((i7_.f k af).bind fun ac=>(if (zs4 ++ (⟨#[32]⟩:ByteArray)).size+ac.size≤9223372036854775807 then (if ((zs4 ++ (⟨#[32]⟩:ByteArray)) ++ ac).size+1≤9223372036854775807 then ((i7_.f k ag).bind fun aa=>(if (((zs4 ++ (⟨#[32]⟩:ByteArray)) ++ ac) ++ (⟨#[32]⟩:ByteArray)).size+aa.size≤9223372036854775807 then (if ((((zs4 ++ (⟨#[32]⟩:ByteArray)) ++ ac) ++ (⟨#[32]⟩:ByteArray)) ++ aa).size+1≤9223372036854775807 then (some (((((zs4 ++ (⟨#[32]⟩:ByteArray)) ++ ac) ++ (⟨#[32]⟩:ByteArray)) ++ aa) ++ (⟨#[10]⟩:ByteArray))) else (none)) else (none))) else (none)) else (none))) else (none))=some r:=by first|(rw [hzs4] at H;exact H)|(simp only [hzs4] at H ⊢;exact H)|exact H
 (try rw [hzs4] at A2)
 have c5:=zpc H;replace H:=zph H
 have aZ:=eq_true c5;have a4:=dT c5
 try have a5:(9223372036854775807<zs4.size+1)=False:=eq_false (Nat.not_lt.2 c5)
 obtain⟨zs6,hzs6⟩ : ∃ j_:ByteArray,(zs4 ++ (⟨#[32]⟩:ByteArray))=j_:=⟨_,rfl⟩
 replace H:((i7_.f k af).bind fun ac=>(if zs6.size+ac.size≤9223372036854775807 then (if (zs6 ++ ac).size+1≤9223372036854775807 then ((i7_.f k ag).bind fun aa=>(if ((zs6 ++ ac) ++ (⟨#[32]⟩:ByteArray)).size+aa.size≤9223372036854775807 then (if (((zs6 ++ ac) ++ (⟨#[32]⟩:ByteArray)) ++ aa).size+1≤9223372036854775807 then (some ((((zs6 ++ ac) ++ (⟨#[32]⟩:ByteArray)) ++ aa) ++ (⟨#[10]⟩:ByteArray))) else (none)) else (none))) else (none)) else (none)))=some r:=by first|(rw [hzs6] at H;exact H)|(simp only [hzs6] at H ⊢;exact H)|exact H
 (try rw [hzs6] at A2)
 obtain⟨ac,A7,H⟩:=zbind H
 have c8:=zpc H;replace H:=zph H
 have a6:=eq_true c8;have a7:=dT c8
 try have a8:(9223372036854775807<zs6.size+ac.size)=False:=eq_false (Nat.not_lt.2 c8)
 obtain⟨zs9,hzs9⟩ : ∃ j_:ByteArray,(zs6 ++ ac)=j_:=⟨_,rfl⟩
 replace H:(if zs9.size+1≤9223372036854775807 then ((i7_.f k ag).bind fun aa=>(if (zs9 ++ (⟨#[32]⟩:ByteArray)).size+aa.size≤9223372036854775807 then (if ((zs9 ++ (⟨#[32]⟩:ByteArray)) ++ aa).size+1≤9223372036854775807 then (some (((zs9 ++ (⟨#[32]⟩:ByteArray)) ++ aa) ++ (⟨#[10]⟩:ByteArray))) else (none)) else (none))) else (none))=some r:=by first|(rw [hzs9] at H;exact H)|(simp only [hzs9] at H ⊢;exact H)|exact H
 (try rw [hzs9] at A2)
 (try rw [hzs9] at A7)
 have av:=zpc H;replace H:=zph H
 have aE:=eq_true av;have aG:=dT av
 try have aH:(9223372036854775807<zs9.size+1)=False:=eq_false (Nat.not_lt.2 av)
 obtain⟨zs11,hzs11⟩ : ∃ j_:ByteArray,(zs9 ++ (⟨#[32]⟩:ByteArray))=j_:=⟨_,rfl⟩
 replace H:((i7_.f k ag).bind fun aa=>(if zs11.size+aa.size≤9223372036854775807 then (if (zs11 ++ aa).size+1≤9223372036854775807 then (some ((zs11 ++ aa) ++ (⟨#[10]⟩:ByteArray))) else (none)) else (none)))=some r:=by first|(rw [hzs11] at H;exact H)|(simp only [hzs11] at H ⊢;exact H)|exact H
 (try rw [hzs11] at A2)
 (try rw [hzs11] at A7)
 obtain⟨aa,aw,H⟩:=zbind H
 have ax:=zpc H;replace H:=zph H
 have aI:=eq_true ax;have aJ:=dT ax
 try have aK:(9223372036854775807<zs11.size+aa.size)=False:=eq_false (Nat.not_lt.2 ax)
 obtain⟨zs14,hzs14⟩ : ∃ j_:ByteArray,(zs11 ++ aa)=j_:=⟨_,rfl⟩
 replace H:(if zs14.size+1≤9223372036854775807 then (some (zs14 ++ (⟨#[10]⟩:ByteArray))) else (none))=some r:=by first|(rw [hzs14] at H;exact H)|(simp only [hzs14] at H ⊢;exact H)|exact H
 (try rw [hzs14] at A2)
 (try rw [hzs14] at A7)
 (try rw [hzs14] at aw)
 have ay:=zpc H;replace H:=zph H
 have aM:=eq_true ay;have aN:=dT ay
 try have aQ:(9223372036854775807<zs14.size+1)=False:=eq_false (Nat.not_lt.2 ay)
 obtain⟨zs16,hzs16⟩ : ∃ j_:ByteArray,(zs14 ++ (⟨#[10]⟩:ByteArray))=j_:=⟨_,rfl⟩
 replace H:(some zs16)=some r:=by first|(rw [hzs16] at H;exact H)|(simp only [hzs16] at H ⊢;exact H)|exact H
 (try rw [hzs16] at A2)
 (try rw [hzs16] at A7)
 (try rw [hzs16] at aw)
 obtain rfl:=sI H
 go_enter Tryz.func11,Tryz.ntmps11
 try go_wp2_with (first|((with_reducible refine gD (N:=1) rfl ?_);refine zX (N:=1) (cs := #[.slice ai af.length aj,.slice ak ag.length al]) (t:=25) ?_;intro au hg w17 hbox hb;have ab:=A0_ (hbox);have aT:=zG hg HB;have aU:=zG hg HB;replace HB:=zB HB hb;clear hb hbox hg))
 replace ab:=A0_ (kD ab.out)
 replace HB:=A0_ (bD HB.out)
 refine start_ (n:=17) (S:=fun w'=>w'.cell? ⟨au,0,none⟩=some (.slice ai af.length aj)∧w'.cell? ⟨au,1,none⟩=some (.slice ak ag.length al)) (ds := []) (bs 17 0) (by kernel_rfl) rfl rfl ⟨(kC ab.out 0).trans rfl,(kC ab.out 1).trans rfl⟩ (fun hHeld => ?_);refine with_tabW lj_.tab1 lj_.bits1 (fun HT_ HW_ => ?_)
 generalize w17.drew=w18 at ab HB hHeld ⊢
 refine zP 0 (some 3) (bs 17 1) ?_
 refine zP 6 (some 9) (bs 17 65) ?_
 refine zP 11 (some 14) (bs 17 2113) ?_
 refine zT 1 (some 4) (bs 17 2115) hHeld ?_
 refine zP 2 (some 5) (bs 17 2119) ?_
 refine zT 7 (some 10) (bs 17 2247) hHeld ?_
 refine zT 12 (some 15) (bs 17 6343) hHeld ?_
 refine one_ (i:=3) (N:=some 6) (bs 17 6351) rfl rfl (one_of HT_.out (by kernel_rfl)) (by decide) (fun K hK => ?_)
 refine zg Tryz.func17 #[.int .i64 (af.length:Int)] ?_
 with_reducible refine(lh_.calls k (af.length:Int) ah _ A2.out).mono ?_
 rintro e w19 ⟨rfl,hb⟩
 refine⟨_,rfl,?_⟩
 replace ab:=zK ab hb;replace HB:=zB HB hb;(try clear hb)
 refine hK.out _ _ ⟨(kC ab.out 0).trans rfl,(kC ab.out 1).trans rfl⟩ (fun hHeld => ?_)
 clear hK K
 refine zN (some 6) ?_
 refine zP 4 (some 7) (bs 17 6367) ?_
 refine zP 5 (some 8) (bs 17 6399) ?_
 refine one_ (i:=8) (N:=some 11) (bs 17 6655) rfl rfl (one_of HT_.out (by kernel_rfl)) (by decide) (fun K hK => ?_)
 refine zg Tryz.func37 #[.slice ai af.length aj] ?_
 with_reducible refine(i7_.calls k _ _ af ac _ ?am ?an A7.out).mono ?_
 (case am=>exact zC az HB)
 (case an=>exact aA.out)
 rintro e w20 ⟨rfl,hb⟩
 refine⟨_,rfl,?_⟩
 replace ab:=zK ab hb;replace HB:=zB HB hb;(try clear hb)
 refine hK.out _ _ ⟨(kC ab.out 0).trans rfl,(kC ab.out 1).trans rfl⟩ (fun hHeld => ?_)
 clear hK K
 refine zN (some 11) ?_
 refine zP 9 (some 12) (bs 17 7167) ?_
 refine zP 10 (some 13) (bs 17 8191) ?_
 refine one_ (i:=13) (N:=some 16) (bs 17 16383) rfl rfl (one_of HT_.out (by kernel_rfl)) (by decide) (fun K hK => ?_)
 refine zg Tryz.func37 #[.slice ak ag.length al] ?_
 with_reducible refine(i7_.calls k _ _ ag aa _ ?am ?an aw.out).mono ?_
 (case am=>exact zC aC HB)
 (case an=>exact aD.out)
 rintro e w21 ⟨rfl,hb⟩
 refine⟨_,rfl,?_⟩
 replace ab:=zK ab hb;replace HB:=zB HB hb;(try clear hb)
 refine hK.out _ _ ⟨(kC ab.out 0).trans rfl,(kC ab.out 1).trans rfl⟩ (fun hHeld => ?_)
 clear hK K
 refine zN (some 16) ?_
 refine zP 14 (some 17) (bs 17 32767) ?_
 refine zP 15 (some 18) (bs 17 65535) ?_
 refine zP 16 (some 2) (bs 17 131071) ?_
 refine done_ (done_of HT_.out (by kernel_rfl)) ?_
 try go_wp2
 go_ret
 exact⟨by first|rfl|(simp [*] <;> rfl),zB_ HB⟩
def lm_.f (k:Nat) (ac:List Int) (af:List Int):Option (ByteArray):=(i7_.f k ac).bind fun aa=>(if aa.size+1≤9223372036854775807 then ((i7_.f k af).bind fun ab=>(if (aa ++ (⟨#[32]⟩:ByteArray)).size+ab.size≤9223372036854775807 then (if ((aa ++ (⟨#[32]⟩:ByteArray)) ++ ab).size+1≤9223372036854775807 then (some (((aa ++ (⟨#[32]⟩:ByteArray)) ++ ab) ++ (⟨#[10]⟩:ByteArray))) else (none)) else (none))) else (none))
def lm_.T1:Bool×List (List Nat×List Nat):=(true,[([],[]),([0],[0]),([1],[1]),([2],[2]),([],[]),([4],[4]),([5,2],[5]),([3,6],[3,6]),([7],[7]),([8,6,0,1,2,3,4,5,6,7,8],[8])])
def lm_.B1:List Nat := [0,1,3,7,0,16,55,127,255,511]
theorem lm_.tab1:rtab .any (opsOf Tryz.f12 1)=lm_.T1:=by kernel_rfl
theorem lm_.bits1:waitsOk lm_.T1.2 lm_.B1=true:=by kernel_rfl
theorem lm_.calls (k:Nat) (ah:Option Addr) (ai:Nat) (af:List Int) (aj:Option Addr) (ak:Nat) (ab:List Int) (r:ByteArray) (w:World) (an:Kd.C (Kd.int .i64) w ah af.length af) (ao:af.length≤ai) (ap:Kd.C (Kd.int .i64) w aj ab.length ab) (aq:ab.length≤ak) (h:lm_.f k af ab=some r) :
    Calls Tryz.prog 12 #[.agg #[.slice ah af.length ai,.slice aj ab.length ak]] w fun e w'=>e = .returned (.string r)∧Below w.heap.size w w':=by
 have aA:=Tryz.underlying25;have au:=A0_ an;have av:=A0_ ao;clear an ao;have aw:=A0_ ap;have ax:=A0_ aq;clear ap aq
 have HB:=A0_ (Below.refl w.heap.size w)
 have H:((i7_.f k af).bind fun ag=>(if ag.size+1≤9223372036854775807 then ((i7_.f k ab).bind fun ac=>(if (ag ++ (⟨#[32]⟩:ByteArray)).size+ac.size≤9223372036854775807 then (if ((ag ++ (⟨#[32]⟩:ByteArray)) ++ ac).size+1≤9223372036854775807 then (some (((ag ++ (⟨#[32]⟩:ByteArray)) ++ ac) ++ (⟨#[10]⟩:ByteArray))) else (none)) else (none))) else (none)))=some r:=h
 clear h;obtain⟨ag,A2,H⟩:=zbind H
 have c3:=zpc H;replace H:=zph H
 have aC:=eq_true c3;have aD:=dT c3
 try have aE:(9223372036854775807<ag.size+1)=False:=eq_false (Nat.not_lt.2 c3)
 obtain⟨zs4,hzs4⟩ : ∃ j_:ByteArray,(ag ++ (⟨#[32]⟩:ByteArray))=j_:=⟨_,rfl⟩
 replace H:((i7_.f k ab).bind fun ac=>(if zs4.size+ac.size≤9223372036854775807 then (if (zs4 ++ ac).size+1≤9223372036854775807 then (some ((zs4 ++ ac) ++ (⟨#[10]⟩:ByteArray))) else (none)) else (none)))=some r:=by first|(rw [hzs4] at H;exact H)|(simp only [hzs4] at H ⊢;exact H)|exact H
 (try rw [hzs4] at A2)
 obtain⟨ac,A5,H⟩:=zbind H
 have c6:=zpc H;replace H:=zph H
 have aG:=eq_true c6;have aH:=dT c6
 try have aI:(9223372036854775807<zs4.size+ac.size)=False:=eq_false (Nat.not_lt.2 c6)
 obtain⟨zs7,hzs7⟩ : ∃ j_:ByteArray,(zs4 ++ ac)=j_:=⟨_,rfl⟩
 replace H:(if zs7.size+1≤9223372036854775807 then (some (zs7 ++ (⟨#[10]⟩:ByteArray))) else (none))=some r:=by first|(rw [hzs7] at H;exact H)|(simp only [hzs7] at H ⊢;exact H)|exact H
 (try rw [hzs7] at A2)
 (try rw [hzs7] at A5)
 have c8:=zpc H;replace H:=zph H
 have aJ:=eq_true c8;have aK:=dT c8
 try have aM:(9223372036854775807<zs7.size+1)=False:=eq_false (Nat.not_lt.2 c8)
 obtain⟨zs9,hzs9⟩ : ∃ j_:ByteArray,(zs7 ++ (⟨#[10]⟩:ByteArray))=j_:=⟨_,rfl⟩
 replace H:(some zs9)=some r:=by first|(rw [hzs9] at H;exact H)|(simp only [hzs9] at H ⊢;exact H)|exact H
 (try rw [hzs9] at A2)
 (try rw [hzs9] at A5)
 obtain rfl:=sI H
 go_enter Tryz.func12,Tryz.ntmps12
 try go_wp2_with (first|((with_reducible refine gD (N:=1) rfl ?_);refine zX (N:=1) (cs := #[.slice ah af.length ai,.slice aj ab.length ak]) (t:=25) ?_;intro ar hg w10 hbox hb;have aa:=A0_ (hbox);have ay:=zG hg HB;have az:=zG hg HB;replace HB:=zB HB hb;clear hb hbox hg))
 replace aa:=A0_ (kD aa.out)
 replace HB:=A0_ (bD HB.out)
 refine start_ (n:=10) (S:=fun w'=>w'.cell? ⟨ar,0,none⟩=some (.slice ah af.length ai)∧w'.cell? ⟨ar,1,none⟩=some (.slice aj ab.length ak)) (ds := []) (bs 10 0) (by kernel_rfl) rfl rfl ⟨(kC aa.out 0).trans rfl,(kC aa.out 1).trans rfl⟩ (fun hHeld => ?_);refine with_tabW lm_.tab1 lm_.bits1 (fun HT_ HW_ => ?_)
 generalize w10.drew=w11 at aa HB hHeld ⊢
 refine zP 0 (some 3) (bs 10 1) ?_
 refine zP 4 (some 7) (bs 10 17) ?_
 refine zT 1 (some 4) (bs 10 19) hHeld ?_
 refine zT 5 (some 8) (bs 10 51) hHeld ?_
 refine one_ (i:=2) (N:=some 5) (bs 10 55) rfl rfl (one_of HT_.out (by kernel_rfl)) (by decide) (fun K hK => ?_)
 refine zg Tryz.func37 #[.slice ah af.length ai] ?_
 with_reducible refine(i7_.calls k _ _ af ag _ ?al ?am A2.out).mono ?_
 (case al=>exact zC au HB)
 (case am=>exact av.out)
 rintro e w12 ⟨rfl,hb⟩
 refine⟨_,rfl,?_⟩
 replace aa:=zK aa hb;replace HB:=zB HB hb;(try clear hb)
 refine hK.out _ _ ⟨(kC aa.out 0).trans rfl,(kC aa.out 1).trans rfl⟩ (fun hHeld => ?_)
 clear hK K
 refine zN (some 5) ?_
 refine zP 3 (some 6) (bs 10 63) ?_
 refine one_ (i:=6) (N:=some 9) (bs 10 127) rfl rfl (one_of HT_.out (by kernel_rfl)) (by decide) (fun K hK => ?_)
 refine zg Tryz.func37 #[.slice aj ab.length ak] ?_
 with_reducible refine(i7_.calls k _ _ ab ac _ ?al ?am A5.out).mono ?_
 (case al=>exact zC aw HB)
 (case am=>exact ax.out)
 rintro e w13 ⟨rfl,hb⟩
 refine⟨_,rfl,?_⟩
 replace aa:=zK aa hb;replace HB:=zB HB hb;(try clear hb)
 refine hK.out _ _ ⟨(kC aa.out 0).trans rfl,(kC aa.out 1).trans rfl⟩ (fun hHeld => ?_)
 clear hK K
 refine zN (some 9) ?_
 refine zP 7 (some 10) (bs 10 255) ?_
 refine zP 8 (some 11) (bs 10 511) ?_
 refine zP 9 (some 2) (bs 10 1023) ?_
 refine done_ (done_of HT_.out (by kernel_rfl)) ?_
 try go_wp2
 go_ret
 exact⟨by first|rfl|(simp [*] <;> rfl),zB_ HB⟩
def li_.f (k:Nat) (a0:Int):Option (ByteArray):=(lh_.f k a0).bind fun aa=>(if 6+aa.size≤9223372036854775807 then (if ((⟨#[100,97,114,116,115,32]⟩:ByteArray) ++ aa).size+1≤9223372036854775807 then (some (((⟨#[100,97,114,116,115,32]⟩:ByteArray) ++ aa) ++ (⟨#[10]⟩:ByteArray))) else (none)) else (none))
theorem li_.calls (k:Nat) (a0:Int) (r:ByteArray) (w:World) (h:li_.f k a0=some r) :
    Calls Tryz.prog 13 #[.int .i64 a0] w fun e w'=>e = .returned (.string r)∧Below w.heap.size w w':=by
 have HB:=A0_ (Below.refl w.heap.size w)
 have H:((lh_.f k a0).bind fun aa=>(if 6+aa.size≤9223372036854775807 then (if ((⟨#[100,97,114,116,115,32]⟩:ByteArray) ++ aa).size+1≤9223372036854775807 then (some (((⟨#[100,97,114,116,115,32]⟩:ByteArray) ++ aa) ++ (⟨#[10]⟩:ByteArray))) else (none)) else (none)))=some r:=h
 clear h;obtain⟨aa,A2,H⟩:=zbind H
 have c3:=zpc H;replace H:=zph H
 have ab:=eq_true c3;have ac:=dT c3
 try have af:(9223372036854775807<6+aa.size)=False:=eq_false (Nat.not_lt.2 c3)
 obtain⟨zs4,hzs4⟩ : ∃ j_:ByteArray,((⟨#[100,97,114,116,115,32]⟩:ByteArray) ++ aa)=j_:=⟨_,rfl⟩
 replace H:(if zs4.size+1≤9223372036854775807 then (some (zs4 ++ (⟨#[10]⟩:ByteArray))) else (none))=some r:=by first|(rw [hzs4] at H;exact H)|(simp only [hzs4] at H ⊢;exact H)|exact H
 (try rw [hzs4] at A2)
 have c5:=zpc H;replace H:=zph H
 have ag:=eq_true c5;have ah:=dT c5
 try have ai:(9223372036854775807<zs4.size+1)=False:=eq_false (Nat.not_lt.2 c5)
 obtain⟨zs6,hzs6⟩ : ∃ j_:ByteArray,(zs4 ++ (⟨#[10]⟩:ByteArray))=j_:=⟨_,rfl⟩
 replace H:(some zs6)=some r:=by first|(rw [hzs6] at H;exact H)|(simp only [hzs6] at H ⊢;exact H)|exact H
 (try rw [hzs6] at A2)
 obtain rfl:=sI H
 go_enter Tryz.func13,Tryz.ntmps13
 go_wp2_with (first|((with_reducible refine gC (f:=17) rfl ?_);refine zJ (some 4) Tryz.func17 #[.int .i64 a0] ?_;(with_reducible refine(lh_.calls k a0 aa _ A2.out).mono ?_);rintro e w7 ⟨rfl,hb⟩;refine⟨_,rfl,?_⟩;replace HB:=zB HB hb;(try clear hb)))
 go_ret
 exact⟨by first|rfl|(simp [*] <;> rfl),zB_ HB⟩
/-- A state of type 76 at block g of W; what its slices lead to came in by w0. -/
def IsS76 (w0 W:World) (g:Nat) (f0:List Int) (f1:Int):Prop := ∃ A0 c0,W.heap[g]? = some (.cells #[.slice A0 f0.length c0,.int .i64 f1] 76 (0,0))∧w0.heap.size≤g∧Kd.C (Kd.int .u8) w0 A0 f0.length f0
theorem IsS76.grown {w0 W:World} {g:Nat} {f0:List Int} {f1:Int} {W1:World} {row:Option Nat} (h:IsS76 w0 W g f0 f1) (hw:W.grownBy W1 row) (hne:some g≠row):IsS76 w0 W1 g f0 f1:=by
  obtain⟨A0,c0,hb,hg,aa⟩:=h
  exact⟨A0,c0,blk_grown hb hw hne,hg,aa⟩
theorem IsS76.own_neN {w0 W:World} {g:Nat} {f0:List Int} {f1:Int} {α:Type} {d:Kd α} {e:Nat} {base:Nat} {ok:Nat→Prop} {v:Value} {xs:List α} (h:IsS76 w0 W g f0 f1) (ho:Kd.N d e W base ok v xs) (ht:e≠76):some g≠v.ownBlock:=by
  obtain⟨A0,c0,hb,hg,aa⟩:=h
  exact Kd.N_ne ho hb ht
theorem IsS76.fresh {w0 W:World} {g:Nat} {f0:List Int} {f1:Int} (h:IsS76 w0 W g f0 f1) : ∀ k,W.heap.size≤k→k≠g:=by
  obtain⟨A0,c0,hb,hg,aa⟩:=h
  exact Kd.freshB hb
theorem IsS76.kept {w0 W:World} {g:Nat} {f0:List Int} {f1:Int} {W1:World} {S:Nat→Prop} (h:IsS76 w0 W g f0 f1) (hk:Kept W W1 S) (hne : ¬ S g):IsS76 w0 W1 g f0 f1:=by
  obtain⟨A0,c0,hb,hg,aa⟩:=h
  exact⟨A0,c0,blk_kept hb hk hne,hg,aa⟩
theorem IsS76.below {w0 W:World} {g:Nat} {f0:List Int} {f1:Int} {W1:World} (h:IsS76 w0 W g f0 f1) (hw:Below W.heap.size W W1):IsS76 w0 W1 g f0 f1:=h.grown (grown_of_below hw none) (by simp)
theorem IsS76.alloc {w0 W:World} {g:Nat} {f0:List Int} {f1:Int} (h:IsS76 w0 W g f0 f1) (o:Obj):IsS76 w0 (W.alloc o) g f0 f1:=h.below (bA (Below.refl _ _) o)
theorem IsS76.drewN {w0 W:World} {g:Nat} {f0:List Int} {f1:Int} (h:IsS76 w0 W g f0 f1) (m:Nat):IsS76 w0 (W.drewN m) g f0 f1:=h
theorem IsS76.drew {w0 W:World} {g:Nat} {f0:List Int} {f1:Int} (h:IsS76 w0 W g f0 f1):IsS76 w0 W.drew g f0 f1:=h
theorem IsS76.at_ {w0 W:World} {g:Nat} {f0:List Int} {f1:Int} {w':World} {m:Nat} (hq:W.drewN m=w') (h:IsS76 w0 W g f0 f1):IsS76 w0 w' g f0 f1:=by subst hq;exact IsS76.drewN h m
theorem IsS76.apart {w0 W:World} {g:Nat} {f0:List Int} {f1:Int} {α:Type} {d:Kd α} {e:Nat} {base:Nat} {ok:Nat→Prop} {v:Value} {xs:List α} (h:IsS76 w0 W g f0 f1) (ho:d.R e W base ok v xs) (ht : ∀ q,q ∈ e :: d.E→q≠76):d.R e W base (fun k=>ok k∧k≠g) v xs:=by
  obtain⟨A0,c0,hb,hg,aa⟩:=h
  exact rY ho hb ht
theorem IsS76.own_ne {w0 W:World} {g:Nat} {f0:List Int} {f1:Int} {α:Type} {d:Kd α} {e:Nat} {base:Nat} {ok:Nat→Prop} {v:Value} {xs:List α} (h:IsS76 w0 W g f0 f1) (ho:d.R e W base ok v xs) (ht:e≠76):some g≠v.ownBlock:=by
  obtain⟨A0,c0,hb,hg,aa⟩:=h
  exact Kd.R_ne ho hb ht
theorem IsS76.apartQ {w0 W:World} {g:Nat} {f0:List Int} {f1:Int} {α:Type} {d:Kd α} {e:Nat} {base:Nat} {ok:Nat→Prop} {v:Value} {xs:List α} (h:IsS76 w0 W g f0 f1) (ho:d.Q e W base ok v xs) (ht : ∀ q,q ∈ e :: d.E→q≠76):d.Q e W base (fun k=>ok k∧k≠g) v xs:=by
  obtain⟨A0,c0,hb,hg,aa⟩:=h
  exact Kd.Q_types ho hb ht
theorem IsS76.own_neQ {w0 W:World} {g:Nat} {f0:List Int} {f1:Int} {α:Type} {d:Kd α} {e:Nat} {base:Nat} {ok:Nat→Prop} {v:Value} {xs:List α} (h:IsS76 w0 W g f0 f1) (ho:d.Q e W base ok v xs) (ht:e≠76):some g≠v.ownBlock:=by
  obtain⟨A0,c0,hb,hg,aa⟩:=h
  exact Kd.Q_ne ho hb ht
theorem IsS76.apartS {w0 W:World} {g:Nat} {f0:List Int} {f1:Int} {α:Type} {d:Kd α} {e:Nat} {base:Nat} {ok:Nat→Prop} {v:Value} {xs:List α} (h:IsS76 w0 W g f0 f1) (ho:d.S e W base ok v xs) (ht : ∀ q,q ∈ e :: d.E→q≠76):d.S e W base (fun k=>ok k∧k≠g) v xs:=by
  obtain⟨A0,c0,hb,hg,aa⟩:=h
  exact Kd.S_types ho hb ht
theorem IsS76.own_neS {w0 W:World} {g:Nat} {f0:List Int} {f1:Int} {α:Type} {d:Kd α} {e:Nat} {base:Nat} {ok:Nat→Prop} {v:Value} {xs:List α} (h:IsS76 w0 W g f0 f1) (ho:d.S e W base ok v xs) (ht:e≠76):some g≠v.ownBlock:=by
  obtain⟨A0,c0,hb,hg,aa⟩:=h
  exact Kd.S_ne ho hb ht
theorem IsS76.lt {w0 W:World} {g:Nat} {f0:List Int} {f1:Int} (h:IsS76 w0 W g f0 f1):g<W.heap.size:=by
  obtain⟨A0,c0,hb,hg,aa⟩:=h
  exact kL hb
theorem IsS76.ge {w0 W:World} {g:Nat} {f0:List Int} {f1:Int} (h:IsS76 w0 W g f0 f1):w0.heap.size≤g:=by
  obtain⟨A0,c0,hb,hg,aa⟩:=h
  exact hg
theorem IsS76.ne_blk {w0 W:World} {g:Nat} {f0:List Int} {f1:Int} {a:Nat} {cs:Array Value} {t:TypeId} {fr:Nat×Nat} (h:IsS76 w0 W g f0 f1) (hb2:W.heap[a]? = some (.cells cs t fr)) (ht:t≠76):g≠a:=by
  obtain⟨A0,c0,hb,hg,aa⟩:=h
  rintro rfl
  rw [hb] at hb2
  injection hb2 with hb2
  injection hb2 with _ ht2
  exact ht ht2.symm
theorem IsS76.far {w0 W:World} {g:Nat} {f0:List Int} {f1:Int} {p:Addr} (h:IsS76 w0 W g f0 f1) (hne:g≠p.block) (u:Value):IsS76 w0 (W.setCell p u) g f0 f1:=by
  obtain⟨A0,c0,hb,hg,aa⟩:=h
  exact⟨A0,c0,blk_far hb hne u,hg,aa⟩
theorem cellS76_0 {W:World} {g:Nat} {A0:Option Addr} {c0:Nat} {f0:List Int} {f1:Int} (h:W.heap[g]? = some (.cells #[.slice A0 f0.length c0,.int .i64 f1] 76 (0,0))):W.cell? ⟨g,0,none⟩=some (.slice A0 f0.length c0):=(kC h 0).trans rfl
theorem cellS76_1 {W:World} {g:Nat} {A0:Option Addr} {c0:Nat} {f0:List Int} {f1:Int} (h:W.heap[g]? = some (.cells #[.slice A0 f0.length c0,.int .i64 f1] 76 (0,0))):W.cell? ⟨g,1,none⟩=some (.int .i64 f1):=(kC h 1).trans rfl
theorem IsS76.set_1 {w0 W:World} {g:Nat} {f0:List Int} {f1:Int} (h:IsS76 w0 W g f0 f1) (x:Int):IsS76 w0 (W.setCell ⟨g,1,none⟩ (.int .i64 x)) g f0 x:=by
  obtain⟨A0,c0,hb,hg,aa⟩:=h
  exact⟨A0,c0,by simpa using blk_set hb 1 (.int .i64 x),hg,aa⟩
theorem IsS76.new (w0 W:World) (A0:Option Addr) (c0:Nat) (f0:List Int) (f1:Int) (hB:Below w0.heap.size w0 W) (aa:Kd.C (Kd.int .u8) w0 A0 f0.length f0):IsS76 w0 (W.alloc (.cells #[.slice A0 f0.length c0,.int .i64 f1] 76)) W.heap.size f0 f1:=⟨A0,c0,by simpa using heap_alloc_new W _,hB.size,aa⟩
theorem zIs {w0 W W2:World} {g:Nat} {f0 f0':List Int} {f1 f1':Int} (h:Aside0 (IsS76 w0 W g f0 f1)) (t:IsS76 w0 W g f0 f1→IsS76 w0 W2 g f0' f1':=by intro h_;repeat(first|(with_reducible first|exact h_|apply IsS76.alloc|apply IsS76.drewN|apply IsS76.drew|apply IsS76.set_1|refine IsS76.far ?_ (Aside0.out (by assumption)) _)|exact h_)):IsS76 w0 W2 g f0' f1':=t h.out
theorem zBw {b:Nat} {w W W2:World} (h:Aside0 (Below b w W)) (t:Below b w W→Below b w W2:=by intro h_;repeat(first|(with_reducible first|exact h_|apply bA|apply bN|apply bD|refine bS ?_ (Aside0.out (by assumption))|refine bS ?_ (IsS76.ge (Aside0.out (by assumption))))|exact h_)):Below b w W2:=t h.out
def s14_.f (l0:List Int):Option (List Int×Int):=if (l0.length:Int)>2000 then (if 2000≤(l0.length:Int) then (some (l0.take 2000,0)) else (none)) else (some (l0,0))
theorem s14_.calls (A0:Option Addr) (c0:Nat) (l0:List Int) (r1:List Int) (r2:Int) (w0 w:World) (hB:Below w0.heap.size w0 w) (am:Kd.C (Kd.int .u8) w0 A0 l0.length l0) (an:l0.length≤c0) (h:s14_.f l0=some (r1,r2)) :
    Calls Tryz.prog 21 #[.slice A0 l0.length c0] w fun e w' => ∃ g_:Nat,e = .returned (.pointer (some ⟨g_,0,none⟩))∧IsS76 w0 w' g_ r1 r2∧Below w0.heap.size w0 w'∧Below w.heap.size w w':=by
 have av:=Tryz.underlying76;have ao:=A0_ am;have ar:=A0_ an;clear am an
 have HBW:=A0_ (Below.refl w.heap.size w)
 have HW0:=A0_ hB.size;have HB:=A0_ hB;clear hB
 have H:(if (l0.length:Int)>2000 then (if 2000≤(l0.length:Int) then (some (l0.take 2000,0)) else (none)) else (some (l0,0)))=some (r1,r2):=h
 clear h
 by_cases c2:(l0.length:Int)>2000
 ·rw [if_pos c2] at H
  have ap:decide (2000<(l0.length:Int))=true:=dT c2
  have aq:decide (2000<l0.length)=true:=dT (by omega)
  clear c2
  have c3:=zpc H;replace H:=zph H
  have aw:=eq_true c3;have ax:=dT c3;clear c3;simp only [Option.some.injEq,Prod.mk.injEq] at H;obtain⟨rfl,rfl⟩:=H;obtain⟨i04,ac,_,hsz4,_⟩:=info_parts info5
  obtain⟨hcut4,hA4,hC4⟩:=print_take_of (P:=Tryz.prog) (Value.int .u8) 0 22 5 .i64 Tryz.underlying22 ac hsz4 A0 c0 l0 2000 (by omega) (zd) ar.out
  have af:=A0_ (Kd.C_of_reads (h1:=fun _=>rfl) (hA4 _ (Kd.reads_of_C ao.out)))
  have au:=A0_ hC4;clear hA4 hC4 ac hsz4
  go_enter Tryz.func21,Tryz.ntmps21
  go_wp2_with (first|((with_reducible refine gD (N:=10) rfl ?_);refine zX (N:=10) (cs := #[.slice A0 (l0.take 2000).length c0,.int .i64 0]) (t:=76) ?_;intro aa hg w5 hbox hb;replace HB:=zB HB hb;have ag:=A0_ (hbox);have ah:=A0_ ((by rw [hg];exact(bZ (by repeat(first|(with_reducible first|exact HBW.out|apply bA|apply bN|apply bD)|exact HBW.out))):w.heap.size≤aa));have ai:=A0_ ((Nat.le_trans HW0.out (by rw [hg];exact(bZ (by repeat(first|(with_reducible first|exact HBW.out|apply bA|apply bN|apply bD)|exact HBW.out))):w.heap.size≤aa):w0.heap.size≤aa));replace HBW:=A0_ (bT HBW.out hb);clear hb hbox hg))
  go_ret
  exact⟨_,rfl,(show IsS76 w0 _ aa (l0.take 2000) 0 from⟨_,_,zK_ ag,ai.out,af.out⟩),zB_ HB,by repeat(first|(with_reducible first|exact HBW.out|apply bA|apply bN|apply bD|refine bS ?_ ah.out)|exact HBW.out)⟩
 rw [if_neg c2] at H
 have ap:decide (2000<(l0.length:Int))=false:=dF c2
 have aq:decide (2000<l0.length)=false:=dF (by omega)
 clear c2;simp only [Option.some.injEq,Prod.mk.injEq] at H;obtain⟨rfl,rfl⟩:=H
 go_enter Tryz.func21,Tryz.ntmps21
 go_wp2_with (first|((with_reducible refine gD (N:=10) rfl ?_);refine zX (N:=10) (cs := #[.slice A0 l0.length c0,.int .i64 0]) (t:=76) ?_;intro ab hg w6 hbox hb;replace HB:=zB HB hb;have aj:=A0_ (hbox);have ak:=A0_ ((by rw [hg];exact(bZ (by repeat(first|(with_reducible first|exact HBW.out|apply bA|apply bN|apply bD)|exact HBW.out))):w.heap.size≤ab));have al:=A0_ ((Nat.le_trans HW0.out (by rw [hg];exact(bZ (by repeat(first|(with_reducible first|exact HBW.out|apply bA|apply bN|apply bD)|exact HBW.out))):w.heap.size≤ab):w0.heap.size≤ab));replace HBW:=A0_ (bT HBW.out hb);clear hb hbox hg))
 go_ret
 exact⟨_,rfl,(show IsS76 w0 _ ab l0 0 from⟨_,_,zK_ aj,al.out,ao.out⟩),zB_ HB,by repeat(first|(with_reducible first|exact HBW.out|apply bA|apply bN|apply bD|refine bS ?_ ak.out)|exact HBW.out)⟩
def s15_.j0:Nat→Int→Bool→List Int→Int→Option (Int×Int)
  | 0,_,_,_,_=>none
  | k+1,x1,ac,aa,ab=>if ac=true then (some (0,ab)) else (if (wrap64 (ab - 1))<(aa.length:Int) then (if 0≤(wrap64 (ab - 1)) then (if x1=0 then (none) else (some (Int.tmod (wrap64 (rd aa (wrap64 (ab - 1)))) x1,ab))) else (none)) else (if (aa.length:Int)=0 then (none) else (if 0≤(Int.tmod (wrap64 (ab - 1)) (aa.length:Int)) then (if (Int.tmod (wrap64 (ab - 1)) (aa.length:Int))<(aa.length:Int) then (if 0≤(Int.tmod (wrap64 ((wrap64 ((wrap64 (ab - 1))*7))+3)) (aa.length:Int)) then (if (Int.tmod (wrap64 ((wrap64 ((wrap64 (ab - 1))*7))+3)) (aa.length:Int))<(aa.length:Int) then (if x1=0 then (none) else (some (Int.tmod (Go.bits .xor .i64 (wrap64 ((wrap64 ((wrap64 ((wrap64 ((wrap64 (rd aa (Int.tmod (wrap64 (ab - 1)) (aa.length:Int))))*131))+(wrap64 ((wrap64 (rd aa (Int.tmod (wrap64 ((wrap64 ((wrap64 (ab - 1))*7))+3)) (aa.length:Int))))*1117))))+(wrap64 ((wrap64 (ab - 1))*29))))+(wrap64 ((wrap64 (Int.tdiv (wrap64 (ab - 1)) (aa.length:Int)))*53)))) (wrap64 (Int.tdiv (wrap64 ((wrap64 ((wrap64 ((wrap64 ((wrap64 (rd aa (Int.tmod (wrap64 (ab - 1)) (aa.length:Int))))*131))+(wrap64 ((wrap64 (rd aa (Int.tmod (wrap64 ((wrap64 ((wrap64 (ab - 1))*7))+3)) (aa.length:Int))))*1117))))+(wrap64 ((wrap64 (ab - 1))*29))))+(wrap64 ((wrap64 (Int.tdiv (wrap64 (ab - 1)) (aa.length:Int)))*53)))) 64))) x1,ab))) else (none)) else (none)) else (none)) else (none))))
def s15_.f (k:Nat) (s0_0:List Int) (s0_1:Int) (a1:Int):Option (Int×Int):=if a1<1 then (s15_.j0 k a1 true s0_0 (wrap64 (s0_1+1))) else (s15_.j0 k a1 ((s0_0.length:Int) == 0) s0_0 (wrap64 (s0_1+1)))
theorem s15_.calls (k:Nat) (g:Nat) (s0_0:List Int) (s0_1:Int) (a1:Int) (r1:Int) (r2:Int) (w0 w:World) (hI:IsS76 w0 w g s0_0 s0_1) (hB:Below w0.heap.size w0 w) (h:s15_.f k s0_0 s0_1 a1=some (r1,r2)) :
    Calls Tryz.prog 22 #[.pointer (some ⟨g,0,none⟩),.int .i64 a1] w fun e w'=>e = .returned (.int .i64 r1)∧IsS76 w0 w' g s0_0 r2∧Below w0.heap.size w0 w'∧KeepBut w w' g none:=by
 have HI0:=A0_ hI
 have HK:=A0_ (KeepBut.refl w g none)
 have HL:=A0_ hB.size;clear hI;have HW0:=A0_ hB.size;have HB:=A0_ hB;clear hB
 have H:(if a1<1 then (s15_.j0 k a1 true s0_0 (wrap64 (s0_1+1))) else (s15_.j0 k a1 ((s0_0.length:Int) == 0) s0_0 (wrap64 (s0_1+1))))=some (r1,r2):=h
 clear h;have av:=A0_ H;clear H;obtain⟨ASz4_0,cSz4_0,HGz4,hgz4,HSz4_0⟩:=HI0.out;have aw:=cellS76_0 HGz4;have ax:=cellS76_1 HGz4;have ay:=kF HGz4 1;clear HGz4 hgz4
 go_enter Tryz.func22,Tryz.ntmps22
 go_upto_region 2 with(fail)
 repeat(go_quiet (fail);go_upto_region 2 with(fail))
 go_cut [24] (fun v24 wc => ∃ (kq:Nat) (ac:Bool),v24 = .bool ac∧Aside0 (s15_.j0 kq a1 ac s0_0 (wrap64 (s0_1+1))=some (r1,r2))∧Aside0 (kq≤k)∧Aside0 (IsS76 w0 wc g s0_0 (wrap64 (s0_1+1)))∧Aside0 (KeepBut w wc g none)∧Aside0 (Below w0.heap.size w0 wc))
 case first =>
  have H:=av.out;clear av
  by_cases c5:a1<1
  ·rw [if_pos c5] at H
   have af:=dT c5;clear c5
   (first|rw [af]|(simp only [i64_w,i32_w];rw [af])|skip)
   have H':=A0_ H;clear H
   go_wp2
   repeat(go_quiet (fail);try go_wp2)
   go_meet
   case rel=>exact⟨_,(true),zt,H',zo,⟨zIs HI0⟩,⟨zKp HK⟩,⟨zBw HB⟩⟩
  rw [if_neg c5] at H;have af:=dF c5;clear c5
  (first|rw [af]|(simp only [i64_w,i32_w];rw [af])|skip)
  have H':=A0_ H;clear H;obtain⟨ASz6_0,cSz6_0,HGz6,hgz6,HSz6_0⟩:=HI0.out;have a4:=cellS76_0 HGz6;have a5:=cellS76_1 HGz6;have a6:=kF HGz6 1;clear HGz6 hgz6
  go_wp2
  repeat(go_quiet (fail);try go_wp2)
  go_meet
  case rel=>exact⟨_,(((s0_0.length:Int) == 0)),zt,H',zo,⟨zIs HI0⟩,⟨zKp HK⟩,⟨zBw HB⟩⟩
 case rest =>
  clear av;(try clear aw);(try clear ax);(try clear ay);obtain⟨kq,ac,rfl,HA,bk,HI0,HK,HB⟩:=hcut
  cases kq with
  | zero=>exact absurd HA.out (by simp [s15_.j0])
  | succ bl =>
   have H:=HA.out;clear HA;simp only [s15_.j0] at H
   by_cases c7:ac=true
   ·subst c7
    have H1:(some (0,(wrap64 (s0_1+1))))=some (r1,r2):=by rw [if_pos rfl] at H;exact H
    clear H;have H:=H1;clear H1;simp only [Option.some.injEq,Prod.mk.injEq] at H;obtain⟨rfl,rfl⟩:=H
    go_wp2
    repeat(go_quiet (fail);try go_wp2)
    go_ret
    exact⟨by first|rfl|(simp [*] <;> rfl),zIs HI0,zBw HB,zKp HK⟩
   replace c7:=Bool.eq_false_iff.mpr c7;subst c7
   have H1:(if (wrap64 ((wrap64 (s0_1+1)) - 1))<(s0_0.length:Int) then (if 0≤(wrap64 ((wrap64 (s0_1+1)) - 1)) then (if a1=0 then (none) else (some (Int.tmod (wrap64 (rd s0_0 (wrap64 ((wrap64 (s0_1+1)) - 1)))) a1,(wrap64 (s0_1+1))))) else (none)) else (if (s0_0.length:Int)=0 then (none) else (if 0≤(Int.tmod (wrap64 ((wrap64 (s0_1+1)) - 1)) (s0_0.length:Int)) then (if (Int.tmod (wrap64 ((wrap64 (s0_1+1)) - 1)) (s0_0.length:Int))<(s0_0.length:Int) then (if 0≤(Int.tmod (wrap64 ((wrap64 ((wrap64 ((wrap64 (s0_1+1)) - 1))*7))+3)) (s0_0.length:Int)) then (if (Int.tmod (wrap64 ((wrap64 ((wrap64 ((wrap64 (s0_1+1)) - 1))*7))+3)) (s0_0.length:Int))<(s0_0.length:Int) then (if a1=0 then (none) else (some (Int.tmod (Go.bits .xor .i64 (wrap64 ((wrap64 ((wrap64 ((wrap64 ((wrap64 (rd s0_0 (Int.tmod (wrap64 ((wrap64 (s0_1+1)) - 1)) (s0_0.length:Int))))*131))+(wrap64 ((wrap64 (rd s0_0 (Int.tmod (wrap64 ((wrap64 ((wrap64 ((wrap64 (s0_1+1)) - 1))*7))+3)) (s0_0.length:Int))))*1117))))+(wrap64 ((wrap64 ((wrap64 (s0_1+1)) - 1))*29))))+(wrap64 ((wrap64 (Int.tdiv (wrap64 ((wrap64 (s0_1+1)) - 1)) (s0_0.length:Int)))*53)))) (wrap64 (Int.tdiv (wrap64 ((wrap64 ((wrap64 ((wrap64 ((wrap64 (rd s0_0 (Int.tmod (wrap64 ((wrap64 (s0_1+1)) - 1)) (s0_0.length:Int))))*131))+(wrap64 ((wrap64 (rd s0_0 (Int.tmod (wrap64 ((wrap64 ((wrap64 ((wrap64 (s0_1+1)) - 1))*7))+3)) (s0_0.length:Int))))*1117))))+(wrap64 ((wrap64 ((wrap64 (s0_1+1)) - 1))*29))))+(wrap64 ((wrap64 (Int.tdiv (wrap64 ((wrap64 (s0_1+1)) - 1)) (s0_0.length:Int)))*53)))) 64))) a1,(wrap64 (s0_1+1))))) else (none)) else (none)) else (none)) else (none))))=some (r1,r2):=by rw [if_neg (show ¬ (false=true) by decide)] at H;exact H
   clear H;have H:=H1;clear H1
   by_cases c8:(wrap64 ((wrap64 (s0_1+1)) - 1))<(s0_0.length:Int)
   ·rw [if_pos c8] at H
    have az:=dT c8;clear c8
    obtain⟨ah,ag⟩ : ∃ j_:Int,(wrap64 ((wrap64 (s0_1+1)) - 1))=j_:=⟨_,rfl⟩
    replace H:(if 0≤(ah) then (if a1=0 then (none) else (some (Int.tmod (wrap64 (rd s0_0 (ah))) a1,(wrap64 (s0_1+1))))) else (none))=some (r1,r2):=by first|(rw [ag] at H;exact H)|(simp only [ag] at H ⊢;exact H)
    (try rw [ag] at az)
    have hji9w:(IntKind.i64.wrap ((wrap64 (s0_1+1)) - 1))=ah:=(i64_w _).trans ag
    have aE:=zpc H;replace H:=zph H
    have a7:=dT aE;clear aE
    have aG:=zqc H;replace H:=zqh H
    have a8:(a1 == 0)=false:=beq_eq_false_iff_ne.mpr aG
    have a9:(a1 != 0)=true:=bne_iff_ne.mpr aG
    simp only [Option.some.injEq,Prod.mk.injEq] at H;obtain⟨rfl,rfl⟩:=H;obtain⟨ASz12_0,cSz12_0,HGz12,hgz12,HSz12_0⟩:=HI0.out;have aU:=cellS76_0 HGz12;have aV:=cellS76_1 HGz12;have aW:=kF HGz12 1;clear HGz12 hgz12
    have an:0≤((ah):Int):=zd
    have ao:(ah)<(s0_0.length:Int):=zd
    obtain⟨ba,aN,ai⟩:=tI HSz12_0 (ah) an ao
    cases aN
    replace ai:=pw_cell_below HB.out ai
    replace an:=eq_true an;replace ao:=eq_true ao
    go_wp2
    repeat(go_quiet (fail);try go_wp2)
    go_ret
    exact⟨by first|rfl|(simp [errW_none,errW_some] <;> rfl)|(simp only [← ag];first|rfl|(simp [errW_none,errW_some] <;> rfl))|(simp [*,errW_none,errW_some] <;> rfl),zIs HI0,zBw HB,zKp HK⟩
   rw [if_neg c8] at H;have az:=dF c8;clear c8
   have aA:=zqc H;replace H:=zqh H
   have bb:((s0_0.length:Int) == 0)=false:=beq_eq_false_iff_ne.mpr aA
   have bc:((s0_0.length:Int) != 0)=true:=bne_iff_ne.mpr aA
   have bd : ¬ (s0_0 = []):=fun h_=>aA (by rw [h_];rfl)
   obtain⟨aa,al⟩ : ∃ j_:Int,(Int.tmod (wrap64 ((wrap64 (s0_1+1)) - 1)) (s0_0.length:Int))=j_:=⟨_,rfl⟩
   replace H:(if 0≤(aa) then (if (aa)<(s0_0.length:Int) then (if 0≤(Int.tmod (wrap64 ((wrap64 ((wrap64 ((wrap64 (s0_1+1)) - 1))*7))+3)) (s0_0.length:Int)) then (if (Int.tmod (wrap64 ((wrap64 ((wrap64 ((wrap64 (s0_1+1)) - 1))*7))+3)) (s0_0.length:Int))<(s0_0.length:Int) then (if a1=0 then (none) else (some (Int.tmod (Go.bits .xor .i64 (wrap64 ((wrap64 ((wrap64 ((wrap64 ((wrap64 (rd s0_0 (aa)))*131))+(wrap64 ((wrap64 (rd s0_0 (Int.tmod (wrap64 ((wrap64 ((wrap64 ((wrap64 (s0_1+1)) - 1))*7))+3)) (s0_0.length:Int))))*1117))))+(wrap64 ((wrap64 ((wrap64 (s0_1+1)) - 1))*29))))+(wrap64 ((wrap64 (Int.tdiv (wrap64 ((wrap64 (s0_1+1)) - 1)) (s0_0.length:Int)))*53)))) (wrap64 (Int.tdiv (wrap64 ((wrap64 ((wrap64 ((wrap64 ((wrap64 (rd s0_0 (aa)))*131))+(wrap64 ((wrap64 (rd s0_0 (Int.tmod (wrap64 ((wrap64 ((wrap64 ((wrap64 (s0_1+1)) - 1))*7))+3)) (s0_0.length:Int))))*1117))))+(wrap64 ((wrap64 ((wrap64 (s0_1+1)) - 1))*29))))+(wrap64 ((wrap64 (Int.tdiv (wrap64 ((wrap64 (s0_1+1)) - 1)) (s0_0.length:Int)))*53)))) 64))) a1,(wrap64 (s0_1+1))))) else (none)) else (none)) else (none)) else (none))=some (r1,r2):=by first|(rw [al] at H;exact H)|(simp only [al] at H ⊢;exact H)
   have aH:=zpc H;replace H:=zph H
   have be:=dT aH;clear aH
   have aI:=zpc H;replace H:=zph H
   have bf:=dT aI;clear aI
   obtain⟨ab,am⟩ : ∃ j_:Int,(Int.tmod (wrap64 ((wrap64 ((wrap64 ((wrap64 (s0_1+1)) - 1))*7))+3)) (s0_0.length:Int))=j_:=⟨_,rfl⟩
   replace H:(if 0≤(ab) then (if (ab)<(s0_0.length:Int) then (if a1=0 then (none) else (some (Int.tmod (Go.bits .xor .i64 (wrap64 ((wrap64 ((wrap64 ((wrap64 ((wrap64 (rd s0_0 (aa)))*131))+(wrap64 ((wrap64 (rd s0_0 (ab)))*1117))))+(wrap64 ((wrap64 ((wrap64 (s0_1+1)) - 1))*29))))+(wrap64 ((wrap64 (Int.tdiv (wrap64 ((wrap64 (s0_1+1)) - 1)) (s0_0.length:Int)))*53)))) (wrap64 (Int.tdiv (wrap64 ((wrap64 ((wrap64 ((wrap64 ((wrap64 (rd s0_0 (aa)))*131))+(wrap64 ((wrap64 (rd s0_0 (ab)))*1117))))+(wrap64 ((wrap64 ((wrap64 (s0_1+1)) - 1))*29))))+(wrap64 ((wrap64 (Int.tdiv (wrap64 ((wrap64 (s0_1+1)) - 1)) (s0_0.length:Int)))*53)))) 64))) a1,(wrap64 (s0_1+1))))) else (none)) else (none))=some (r1,r2):=by first|(rw [am] at H;exact H)|(simp only [am] at H ⊢;exact H)
   have aJ:=zpc H;replace H:=zph H
   have bg:=dT aJ;clear aJ
   have aK:=zpc H;replace H:=zph H
   have bh:=dT aK;clear aK
   have aM:=zqc H;replace H:=zqh H
   have bi:(a1 == 0)=false:=beq_eq_false_iff_ne.mpr aM
   have bj:(a1 != 0)=true:=bne_iff_ne.mpr aM
   simp only [Option.some.injEq,Prod.mk.injEq] at H;obtain⟨rfl,rfl⟩:=H;obtain⟨ASz21_0,cSz21_0,HGz21,hgz21,HSz21_0⟩:=HI0.out;have aX:=cellS76_0 HGz21;have aY:=cellS76_1 HGz21;have aZ:=kF HGz21 1;clear HGz21 hgz21
   have ap:0≤((aa):Int):=zd
   have aq:(aa)<(s0_0.length:Int):=zd
   obtain⟨aC,aQ,aj⟩:=tI HSz21_0 (aa) ap aq
   cases aQ
   replace aj:=pw_cell_below HB.out aj
   replace ap:=eq_true ap;replace aq:=eq_true aq
   have ar:0≤((ab):Int):=zd
   have au:(ab)<(s0_0.length:Int):=zd
   obtain⟨aD,aT,ak⟩:=tI HSz21_0 (ab) ar au
   obtain rfl:aC=aD:=(by injection aT)
   replace ak:=pw_cell_below HB.out ak
   replace ar:=eq_true ar;replace au:=eq_true au
   go_wp2
   repeat(go_quiet (fail);try go_wp2)
   go_ret
   exact⟨by first|rfl|(simp [errW_none,errW_some] <;> rfl)|(simp only [← al,← am];first|rfl|(simp [errW_none,errW_some] <;> rfl))|(simp [*,errW_none,errW_some] <;> rfl),zIs HI0,zBw HB,zKp HK⟩
end Go.Proofs.YtjebcgbmlbemcaaGreatDoor.PFnExecuteContract
