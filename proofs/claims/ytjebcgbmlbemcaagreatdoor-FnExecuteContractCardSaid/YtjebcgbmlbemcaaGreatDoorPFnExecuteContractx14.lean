import Derived.Test.YtjebcgbmlbemcaaGreatDoorPFnExecuteContractx12
import Derived.Test.YtjebcgbmlbemcaaGreatDoorPFnExecuteContractx13
namespace Go.Proofs.YtjebcgbmlbemcaaGreatDoor.PFnExecuteContract
open Go.RowKit Go.Proofs.YtjebcgbmlbemcaaGreatDoorW.PrintWords Go.Proofs.YtjebcgbmlbemcaaGreatDoorW.PrintLast Go.Proofs.YtjebcgbmlbemcaaGreatDoorW.PrintMore
set_option maxHeartbeats 8000000
set_option maxRecDepth 100000
attribute [local go_sem] max2_int min2_int max_two min_two max_three min_three max_four min_four
set_option linter.unusedVariables false
set_option linter.unusedSimpArgs false
mutual
def s1e_.l0:Nat→Int→List Int→List Int→Int→List Int→Int→Option (List Int×List Int×Int)
  | 0,_,_,_,_,_,_=>none
  | k+1,x5,x6,x7,x8,aa,ab=>if (wrap64 (x8+1))<x5 then (if 0≤x8 then (if x8<(x6.length:Int) then (if 0≤(wrap64 (x8+1)) then (if (wrap64 (x8+1))<(x6.length:Int) then (if 0≤(rd x6 x8) then (if (rd x6 x8)<(x7.length:Int) then (if 0≤(rd x6 (wrap64 (x8+1))) then (if (rd x6 (wrap64 (x8+1)))<(x7.length:Int) then (s1e_.l0 k x5 x6 ((x7.set ((rd x6 x8):Int).toNat (rd x6 (wrap64 (x8+1)))).set ((rd x6 (wrap64 (x8+1))):Int).toNat (rd x6 x8)) (wrap64 (x8+2)) aa ab) else (none)) else (none)) else (none)) else (none)) else (none)) else (none)) else (none)) else (none)) else ((s1f_.f k aa ab x5).bind fun ac=>(s1e_.l1 k x5 0 aa ac.2 ac.1 x7))
def s1e_.l1:Nat→Int→Int→List Int→Int→List Int→List Int→Option (List Int×List Int×Int)
  | 0,_,_,_,_,_,_=>none
  | k+1,x5,ag,ac,af,aa,ab=>if ag<x5 then ((sw_.f k aa ab).bind fun ah=>(s1e_.j2 k x5 ag (!ah) ac af aa ab)) else (s1e_.j2 k x5 ag false ac af aa ab)
def s1e_.j2:Nat→Int→Int→Bool→List Int→Int→List Int→List Int→Option (List Int×List Int×Int)
  | 0,_,_,_,_,_,_,_=>none
  | k+1,x5,ai,aj,af,ag,aa,ab=>if aj=true then ((s10_.f k aa ab).bind fun ah=>(s1e_.l2 k x5 ai ah 0 af ag aa ab)) else ((s15_.f k af ag 50).bind fun ac=>(if ac.1=0 then (if 0<(ab.length:Int) then (some (aa,(ab.set (0:Int).toNat 0),ac.2)) else (none)) else (if ac.1=1 then (if 1≤(aa.length:Int) then (some ((aa.drop (1:Int).toNat),ab,ac.2)) else (none)) else (if ac.1=2 then (if 0<(aa.length:Int) then (some ((aa.set (0:Int).toNat x5),ab,ac.2)) else (none)) else (some (aa,ab,ac.2))))))
def s1e_.l2:Nat→Int→Int→List Int→Int→List Int→Int→List Int→List Int→Option (List Int×List Int×Int)
  | 0,_,_,_,_,_,_,_,_=>none
  | k+1,x5,ai,ah,ab,af,ag,aa,ac=>if 0≤ab then (if ab<(ah.length:Int) then (if (rd ah ab)=0 then (s1e_.l2 k x5 ai ah (wrap64 (ab+1)) af ag aa ac) else (if 0<(aa.length:Int) then (if ab<(aa.length:Int) then (s1e_.l1 k x5 (wrap64 (ai+1)) af ag ((aa.set (0:Int).toNat (rd aa ab)).set (ab:Int).toNat (rd aa 0)) ac) else (none)) else (none))) else (none)) else (none)
end
def s1e_.f (k:Nat) (s0_0:List Int) (s0_1:Int) (a1:Int):Option (List Int×List Int×Int):=(s15_.f k s0_0 s0_1 a1).bind fun aa=>((s1f_.f k s0_0 aa.2 (wrap64 (2*(wrap64 (1+aa.1))))).bind fun ab=>(if 0≤(wrap64 (2*(wrap64 (1+aa.1)))) then (if (wrap64 (2*(wrap64 (1+aa.1))):Int).toNat≤35184372088832 then (s1e_.l0 k (wrap64 (2*(wrap64 (1+aa.1)))) ab.1 (List.replicate (wrap64 (2*(wrap64 (1+aa.1))):Int).toNat 0) 0 s0_0 ab.2) else (none)) else (none)))
def s1e_.T7:Bool×List (List Nat×List Nat):=(true,[([],[]),([],[]),([],[]),([1,2],[1,2]),([3],[3]),([],[]),([],[]),([6],[6]),([5,7],[5,7]),([8],[8]),([0,4,0,1,2,3,4,5,6,7,8,9],[0,4]),([10,9,0,1,2,3,4,5,6,7,8,9],[9,10])])
def s1e_.B7:List Nat := [0,0,0,6,14,0,0,64,224,480,1023,2047]
theorem s1e_.tab7:rtab .any (opsOf Tryz.f23 7)=s1e_.T7:=by kernel_rfl
theorem s1e_.bits7:waitsOk s1e_.T7.2 s1e_.B7=true:=by kernel_rfl
def s1e_.T8:Bool×List (List Nat×List Nat):=(true,[([],[]),([],[]),([],[]),([2],[2]),([1,3],[1,3]),([4],[4]),([],[]),([],[]),([6,7],[6,7]),([8],[8]),([0,5,0,1,2,3,4,5,6,7,8,9],[0,5]),([10,9,0,1,2,3,4,5,6,7,8,9],[9,10])])
def s1e_.B8:List Nat := [0,0,0,4,14,30,0,0,192,448,1023,2047]
theorem s1e_.tab8:rtab .any (opsOf Tryz.f23 8)=s1e_.T8:=by kernel_rfl
theorem s1e_.bits8:waitsOk s1e_.T8.2 s1e_.B8=true:=by kernel_rfl
def s1e_.T18:Bool×List (List Nat×List Nat):=(true,[([],[]),([0],[0]),([],[]),([2],[2]),([],[]),([3,4],[3,4]),([5],[5]),([1,0,1,2,3,4,5,6],[1]),([7,6,0,1,2,3,4,5,6],[6,7])])
def s1e_.B18:List Nat := [0,1,0,4,0,28,60,127,255]
theorem s1e_.tab18:rtab .any (opsOf Tryz.f23 18)=s1e_.T18:=by kernel_rfl
theorem s1e_.bits18:waitsOk s1e_.T18.2 s1e_.B18=true:=by kernel_rfl
theorem s1e_.calls (k:Nat) (g:Nat) (s0_0:List Int) (s0_1:Int) (a1:Int) (r1:List Int) (r2:List Int) (r3:Int) (w0 w:World) (hI:IsS76 w0 w g s0_0 s0_1) (hB:Below w0.heap.size w0 w) (h:s1e_.f k s0_0 s0_1 a1=some (r1,r2,r3)) :
    Calls Tryz.prog 23 #[.pointer (some ⟨g,0,none⟩),.int .i64 a1] w fun e w' => ∃ v0_ v1_:Value,e = .returned (.agg #[v0_,v1_])∧Kd.Q (Kd.int .i64) 3 w' w.heap.size (fun k_=>nO k_ v1_) v0_ r1∧Kd.R (Kd.int .i64) 3 w' w.heap.size (fun k_=>nO k_ v0_) v1_ r2∧IsS76 w0 w' g s0_0 r3∧Below w0.heap.size w0 w'∧KeepBut w w' g none:=by
 have h9:=Tryz.underlying25;have HI0:=A0_ hI
 have HK:=A0_ (KeepBut.refl w g none)
 have HL:=A0_ hB.size;clear hI;have HW0:=A0_ hB.size;have HB:=A0_ hB;clear hB
 have H:((s15_.f k s0_0 s0_1 a1).bind fun a8=>((s1f_.f k s0_0 a8.2 (wrap64 (2*(wrap64 (1+a8.1))))).bind fun dk=>(if 0≤(wrap64 (2*(wrap64 (1+a8.1)))) then (if (wrap64 (2*(wrap64 (1+a8.1))):Int).toNat≤35184372088832 then (s1e_.l0 k (wrap64 (2*(wrap64 (1+a8.1)))) dk.1 (List.replicate (wrap64 (2*(wrap64 (1+a8.1))):Int).toNat 0) 0 s0_0 dk.2) else (none)) else (none))))=some (r1,r2,r3):=h
 clear h;obtain⟨⟨cG,dA⟩,A3,H⟩:=zbind H;dsimp only at H;obtain⟨⟨ai,aV⟩,A4,H⟩:=zbind H;dsimp only at H
 obtain⟨ax,aY⟩ : ∃ j_:Int,(wrap64 (2*(wrap64 (1+cG))))=j_:=⟨_,rfl⟩
 replace H:(if 0≤(ax) then (if (ax:Int).toNat≤35184372088832 then (s1e_.l0 k ax ai (List.replicate (ax:Int).toNat 0) 0 s0_0 aV) else (none)) else (none))=some (r1,r2,r3):=by first|(rw [aY] at H;exact H)|(simp only [aY] at H ⊢;exact H)
 (try rw [aY] at A3)
 (try rw [aY] at A4)
 have hji5w:(IntKind.i64.wrap (2*(wrap64 (1+cG))))=ax:=(i64_w _).trans aY
 have c6:=zpc H;replace H:=zph H
 have b6:=eq_true c6;have b7:=dT c6;clear c6
 have c7:=zpc H;replace H:=zph H
 have b8:=eq_true c7;have b9:=dT c7;clear c7
 obtain⟨dB,cd⟩ : ∃ y_:List Int,y_=(List.replicate (ax:Int).toNat 0):=⟨_,rfl⟩
 replace H:(s1e_.l0 k ax ai dB 0 s0_0 aV)=some (r1,r2,r3):=zH cd H
 have dl:=A0_ cd;clear cd;have H':=A0_ H;clear H
 go_enter Tryz.func23,Tryz.ntmps23
 go_wp2_with (first|((with_reducible refine gD (N:=4) rfl ?_);refine zX (N:=4) (cs := #[.slice none 0 0,.slice none 0 0]) (t:=25) ?_;intro ak hg w8 hbox hb;replace HB:=A0_ (bT (zBw HB) hb);have ag:=A0_ (hbox);have ce:=A0_ ((by rw [hg];exact(keep_size (w:=w) (g:=g) (row:=none) (zKp HK)):w.heap.size≤ak));have aQ:=A0_ ((Nat.le_trans HW0.out (by rw [hg];exact(keep_size (w:=w) (g:=g) (row:=none) (zKp HK)):w.heap.size≤ak):w0.heap.size≤ak));replace HK:=A0_ (KeepBut.trans (zKp HK) (KeepBut.of_below hb g none) (.inl rfl));have ar:=A0_ ((by rw [hg];exact Nat.ne_of_lt (IsS76.lt (show IsS76 w0 _ g s0_0 s0_1 from zIs HI0)):g≠ak));have aA:=A0_ ((by rw [hg];exact Nat.ne_of_gt (IsS76.lt (show IsS76 w0 _ g s0_0 s0_1 from zIs HI0)):ak≠g));replace HI0:=A0_ (IsS76.below (zIs HI0) hb);clear hb hbox hg)|((with_reducible refine gC (f:=22) rfl ?_);refine zJ (some 16) Tryz.func22 #[.pointer (some ⟨g,0,none⟩),.int .i64 a1] ?_;(with_reducible refine(s15_.calls k g s0_0 s0_1 a1 cG dA w0 _ ?ay ?az A3.out).mono ?_);(case ay=>repeat(first|(with_reducible first|exact HI0.out|apply IsS76.alloc|apply IsS76.drewN|apply IsS76.drew|apply IsS76.set_1|refine IsS76.far ?_ ar.out _)|exact HI0.out));(case az=>repeat(first|(with_reducible first|exact HB.out|apply bA|apply bN|apply bD|refine bS ?_ (IsS76.ge HI0.out)|refine bS ?_ aQ.out)|exact HB.out));rintro e w9 ⟨rfl,hi,hb,hk⟩;refine⟨_,rfl,?_⟩;replace ag:=A0_ (KeepBut.blk hk (g':=ak) (o := .cells #[.slice none 0 0,.slice none 0 0] 25 (0,0)) (zK_ ag) aA.out (by simp));replace HK:=A0_ (KeepBut.trans (zKp HK) hk (.inl rfl));replace HB:=A0_ (hb);replace HI0:=A0_ (hi);(try clear hb))|((with_reducible refine gC (f:=56) rfl ?_);refine goesL_ (some 21) rfl rfl Tryz.func56 (by kernel_rfl) rfl #[.pointer (some ⟨g,0,none⟩),.int .i64 ax] rfl (by(try simp only [List.map_toArray,List.map_cons,List.map_nil]);first|done|(simp only [aY];rfl)|rfl|(simp only [List.length_drop,List.length_take];rfl)) ?_;(with_reducible refine(s1f_.calls k g s0_0 dA ax ai aV w0 _ ?ay ?az A4.out).mono ?_);(case ay=>repeat(first|(with_reducible first|exact HI0.out|apply IsS76.alloc|apply IsS76.drewN|apply IsS76.drew|apply IsS76.set_1|refine IsS76.far ?_ ar.out _)|exact HI0.out));(case az=>repeat(first|(with_reducible first|exact HB.out|apply bA|apply bN|apply bD|refine bS ?_ (IsS76.ge HI0.out)|refine bS ?_ aQ.out)|exact HB.out));rintro e w10 ⟨dC,rfl,a7,hi,hb,hk⟩;refine⟨_,rfl,?_⟩;replace ag:=A0_ (KeepBut.blk hk (g':=ak) (o := .cells #[.slice none 0 0,.slice none 0 0] 25 (0,0)) (zK_ ag) aA.out (by simp));have bx:=A0_ (rL a7 (keep_size (w:=w) (g:=g) (row:=none) (zKp HK)));replace HK:=A0_ (KeepBut.trans (zKp HK) hk (.inl rfl));replace HB:=A0_ (hb);replace HI0:=A0_ (hi);(try clear hb);(try clear a7))|((with_reducible refine gD (N:=23) rfl ?_);refine Kd.R_make (Kd.int .i64) _ 3 rfl (N:=23) rfl 23 _ _ rfl ax rfl rfl Tryz.underlying23 (.int .i64 0) 8 info3 rfl (by decide) (by omega) 0 (ok:=fun _=>True) (okp:=fun _=>True) rfl (fun _ hk=>hk) trivial (zd) (Nat.le_trans (Nat.mul_le_mul_right _ (zd:ax.toNat≤35184372088832)) (by omega)) (Below.refl _ _) (Nat.le_refl _) ?_;intro dD w11 bm hb hg_ hnew_;clear hg_ hnew_;(first|rw [← dl.out] at bm|(simp only [Int.reduceToNat] at bm;rw [← dl.out] at bm));have eg:=A0_ (rL (Kd.R_new' bm (rX (zR_ bx))) (keep_size (w:=w) (g:=g) (row:=none) (zKp HK)));replace bx:=A0_ (Kd.R_elder' (zR_ bx) (Kd.R_base bm) hb);replace ag:=zK ag hb;replace HK:=A0_ (KeepBut.trans (zKp HK) (KeepBut.of_below hb g none) (.inl rfl));replace HB:=A0_ (bT (zBw HB) hb);replace HI0:=A0_ (IsS76.below (zIs HI0) hb);clear hb bm))
 go_loopg [8] k (fun kq v8 w' => ∃ (aJ:List Int) (al:Int),v8 = .int .i64 al∧Aside0 (s1e_.l0 kq ax ai aJ al s0_0 aV=some (r1,r2,r3))∧Aside0 (kq≤k)∧Aside0 (Kd.R (Kd.int .i64) 3 w' w.heap.size (fun k_=>nO k_ dD) dC ai)∧Aside0 (Kd.R (Kd.int .i64) 3 w' w.heap.size (fun k_=>nO k_ dC) dD aJ)∧Aside0 (w'.heap[ak]? = some (.cells #[(.slice none 0 0),(.slice none 0 0)] 25 (0,0)))∧Aside0 (IsS76 w0 w' g s0_0 aV)∧Aside0 (KeepBut w w' g none)∧Aside0 (Below w0.heap.size w0 w'))
 case atStart=>exact⟨(dB),(0),zt,H',⟨Nat.le_refl _⟩,⟨zmR bx (fun _ hk=>hk.2)⟩,⟨zmR eg (fun _ hk=>hk.2)⟩,⟨zK_ ag⟩,⟨zIs HI0⟩,⟨zKp HK⟩,⟨zBw HB⟩⟩
 case round =>
  clear H';(try clear c6);(try clear b6);(try clear b7);(try clear c7);(try clear b8);(try clear b9);obtain⟨aJ,al,rfl,HA,bv,aC,au,ag,HI0,HK,HB⟩:=hrel
  cases gk with
  | zero=>exact absurd HA.out (by simp [s1e_.l0])
  | succ k1 =>
   have H:=HA.out;clear HA;simp only [s1e_.l0] at H
   by_cases bf:(wrap64 (al+1))<ax
   ·rw [if_pos bf] at H
    have bg:=dT bf;clear bf
    have eH:=zpc H;replace H:=zph H
    have gH:=dT eH;clear eH
    have eI:=zpc H;replace H:=zph H
    have gI:=dT eI;clear eI
    obtain⟨am,bz⟩ : ∃ j_:Int,(wrap64 (al+1))=j_:=⟨_,rfl⟩
    replace H:(if 0≤(am) then (if (am)<(ai.length:Int) then (if 0≤(rd ai al) then (if (rd ai al)<(aJ.length:Int) then (if 0≤(rd ai (am)) then (if (rd ai (am))<(aJ.length:Int) then (s1e_.l0 k1 ax ai ((aJ.set ((rd ai al):Int).toNat (rd ai (am))).set ((rd ai (am)):Int).toNat (rd ai al)) (wrap64 (al+2)) s0_0 aV) else (none)) else (none)) else (none)) else (none)) else (none)) else (none))=some (r1,r2,r3):=by first|(rw [bz] at H;exact H)|(simp only [bz] at H ⊢;exact H)
    (try rw [bz] at bg)
    have hji16w:(IntKind.i64.wrap (al+1))=am:=(i64_w _).trans bz
    have eJ:=zpc H;replace H:=zph H
    have gJ:=dT eJ;clear eJ
    have eK:=zpc H;replace H:=zph H
    have gK:=dT eK;clear eK
    have eL:=zpc H;replace H:=zph H
    have gL:=dT eL;clear eL
    have eM:=zpc H;replace H:=zph H
    have gM:=dT eM;clear eM
    obtain⟨cH,cf⟩ : ∃ y_:List Int,y_=(aJ.set ((rd ai al):Int).toNat (rd ai (am))):=⟨_,rfl⟩
    replace H:(if 0≤(rd ai (am)) then (if (rd ai (am))<(aJ.length:Int) then (s1e_.l0 k1 ax ai (cH.set ((rd ai (am)):Int).toNat (rd ai al)) (wrap64 (al+2)) s0_0 aV) else (none)) else (none))=some (r1,r2,r3):=zH cf H
    have eh:=A0_ cf;clear cf
    have eN:=zpc H;replace H:=zph H
    have gN:=dT eN;clear eN
    have eO:=zpc H;replace H:=zph H
    have gO:=dT eO;clear eO
    obtain⟨dE,cg⟩ : ∃ y_:List Int,y_=(cH.set ((rd ai (am)):Int).toNat (rd ai al)):=⟨_,rfl⟩
    replace H:(s1e_.l0 k1 ax ai dE (wrap64 (al+2)) s0_0 aV)=some (r1,r2,r3):=zH cg H
    have ei:=A0_ cg;clear cg;have H':=A0_ H;clear H
    try go_wp2
    replace aC:=A0_ (rD aC.out)
    replace au:=A0_ (rD au.out)
    replace ag:=A0_ (kD ag.out)
    replace HI0:=A0_ (IsS76.drew HI0.out)
    replace HK:=A0_ (keep_drew HK.out)
    replace HB:=A0_ (bD HB.out)
    obtain⟨ia,dG,dH⟩:=rS aC.out
    (first|subst dH|(injection dH with f1_ f2_ f3_;have f4_:=f1_.symm;have f5_:=f3_.symm;clear f1_ f2_ f3_;subst f4_;subst f5_))
    have cI:0≤(al:Int):=zd
    have cJ:al<(ai.length:Int):=zd
    obtain⟨aX,eU,bQ⟩:=tI (rR aC.out).2.2 al cI cJ
    cases eU
    replace cI:=eq_true cI;replace cJ:=eq_true cJ
    have cK:0≤((am):Int):=zd
    have cL:(am)<(ai.length:Int):=zd
    obtain⟨ej,eV,bR⟩:=tI (rR aC.out).2.2 (am) cK cL
    obtain rfl:aX=ej:=(by injection eV)
    replace cK:=eq_true cK;replace cL:=eq_true cL
    have dI:0≤((rd ai al):Int):=zd
    have dJ:((rd ai al):Int)<((aJ.length:Int):Int):=zd
    obtain⟨aK,dK,dL,dM,gl21,cl21,HG21⟩:=Kd.R_form au.out (by omega)
    (first|cases dL|(injection dL with ea_ en_ ec_;(first|subst ea_|(injection ea_ with ea_;subst ea_));subst ec_;clear en_))
    have GB21:=A0_ dM;have GG21:=A0_ HG21;clear dM gl21 HG21
    obtain⟨dN,dO⟩:=Kd.R_celln 0 au.out ((rd ai al):Int) dI dJ
    replace dI:=eq_true dI;replace dJ:=eq_true dJ
    have HN0_go21:=A0_ (show g≠aK from by have h_:=IsS76.own_ne HI0.out au.out (by decide);intro e_;exact h_ (by rw [e_];rfl))
    have HP27:=Kd.R_putn au.out ((rd ai al):Int) (rd ai (am))
    rw [← eh.out] at HP27
    have HQ27:=A0_ HP27;clear HP27
    refine start_ (n:=12) (S:=fun w'=>w'.cell? (aX.add (al).toNat)=some (.int .i64 (rd ai al))∧w'.cell? (aX.add ((am)).toNat)=some (.int .i64 (rd ai (am)))) (ds := [11]) (bs 12 0) (by kernel_rfl) rfl rfl ⟨bQ,bR⟩ (fun hHeld => ?_);refine with_tabW s1e_.tab7 s1e_.bits7 (fun HT_ HW_ => ?_)
    generalize wr.drew=w25 at aC au ag HI0 HK HB GG21 HQ27 dO dN bQ bR hHeld ⊢
    refine zP 0 (some 30) (bs 12 1) ?_
    refine zP 1 (some 31) (bs 12 3) ?_
    refine zP 2 (some 32) (bs 12 7) ?_
    refine zP 3 (some 33) (bs 12 15) ?_
    refine zP 5 (some 35) (bs 12 47) ?_
    refine zP 6 (some 36) (bs 12 111) ?_
    refine zP 7 (some 37) (bs 12 239) ?_
    refine zP 8 (some 38) (bs 12 495) ?_
    refine zT 4 (some 34) (bs 12 511) hHeld ?_
    refine zT 9 (some 39) (bs 12 1023) hHeld ?_
    refine zP 10 (some 40) (bs 12 2047) ?_
    refine last_ (i:=11) (N:=none) (bs 12 4095) rfl rfl (one_of HT_.out (by kernel_rfl)) (by decide) (fun K hK => ?_)
    refine skip_ (w1 := ?_) (by rfl) rfl ?_ ?_
    rotate_left
    ·go_simp
     rfl
    refine hK.out _ _ ?_
    clear hK K
    refine done_ (done_of HT_.out (by kernel_rfl)) ?_
    try go_wp2
    have n0_:Aside0 (Kd.R (Kd.int .i64) 3 (w25.setCell ⟨aK,((rd ai al):Int).toNat,none⟩ (.int .i64 (rd ai (am)))) w.heap.size (fun k_=>some k_≠(.slice (some ⟨aK,0,none⟩) aJ.length dK:Value).ownBlock) (.slice (some aX) ai.length dG) ai):=⟨by(with_reducible repeat(first|apply rA|apply rN|apply rD));exact rM (rF (p:=⟨aK,((rd ai al):Int).toNat,none⟩) (rM aC.out (fun k_ hk=>(⟨hk,fun e_=>hk (by rw [e_];rfl)⟩:_∧k_≠aK))) (fun _ hk=>hk.2) (.int .i64 (rd ai (am)))) (fun _ hk=>hk.1)⟩
    have n1_:Aside0 (Kd.R (Kd.int .i64) 3 (w25.setCell ⟨aK,((rd ai al):Int).toNat,none⟩ (.int .i64 (rd ai (am)))) w.heap.size (fun k_=>nL k_ (some aX) ai dG) (.slice (some ⟨aK,0,none⟩) aJ.length dK) cH):=⟨zR_ HQ27⟩
    have n2_:Aside0 ((w25.setCell ⟨aK,((rd ai al):Int).toNat,none⟩ (.int .i64 (rd ai (am)))).heap[ak]? = some (.cells #[.slice none 0 0,.slice none 0 0] 25 (0,0))):=⟨by refine zbf ?_ _ (hp:=by have h_:=Kd.R_ne au.out ag.out (by decide);intro e_;exact h_ (by rw [e_];rfl));exact zK_ ag⟩
    have n3_:Aside0 (IsS76 w0 (w25.setCell ⟨aK,((rd ai al):Int).toNat,none⟩ (.int .i64 (rd ai (am)))) g s0_0 aV):=⟨by repeat(first|(with_reducible first|exact HI0.out|apply IsS76.alloc|apply IsS76.drewN|apply IsS76.drew|apply IsS76.set_1|refine IsS76.far ?_ HN0_go21.out _|refine IsS76.far ?_ ar.out _)|exact HI0.out)⟩
    have n4_:Aside0 (KeepBut w (w25.setCell ⟨aK,((rd ai al):Int).toNat,none⟩ (.int .i64 (rd ai (am)))) g none):=⟨by repeat(first|(with_reducible first|exact HK.out|apply KeepBut.set_|apply keep_drewN|apply keep_drew|apply keep_alloc|refine keep_far ?_ GB21.out _|refine keep_far ?_ ce.out _)|exact HK.out)⟩
    have n5_:Aside0 (Below w0.heap.size w0 (w25.setCell ⟨aK,((rd ai al):Int).toNat,none⟩ (.int .i64 (rd ai (am))))):=⟨by repeat(first|(with_reducible first|exact HB.out|apply bA|apply bN|apply bD|refine bS ?_ (Nat.le_trans HL.out GB21.out)|refine bS ?_ (IsS76.ge HI0.out)|refine bS ?_ aQ.out)|exact HB.out)⟩
    (try clear aC);(try clear au);(try clear ag);(try clear HI0);(try clear HK);(try clear HB)
    generalize (w25.setCell ⟨aK,((rd ai al):Int).toNat,none⟩ (.int .i64 (rd ai (am))))=w28 at n0_ n1_ n2_ n3_ n4_ n5_ ⊢
    have aC:=n0_;have au:=n1_;have ag:=n2_;have HI0:=n3_;have HK:=n4_;have HB:=n5_;clear n0_ n1_ n2_ n3_ n4_ n5_
    replace aC:=A0_ (rD aC.out)
    replace au:=A0_ (rD au.out)
    replace ag:=A0_ (kD ag.out)
    replace HI0:=A0_ (IsS76.drew HI0.out)
    replace HK:=A0_ (keep_drew HK.out)
    replace HB:=A0_ (bD HB.out)
    have cM:0≤((am):Int):=zd
    have cO:(am)<(ai.length:Int):=zd
    obtain⟨ek,eW,bU⟩:=tI (rR aC.out).2.2 (am) cM cO
    obtain rfl:aX=ek:=(by injection eW)
    replace cM:=eq_true cM;replace cO:=eq_true cO
    have cP:0≤(al:Int):=zd
    have cQ:al<(ai.length:Int):=zd
    obtain⟨el,eX,bV⟩:=tI (rR aC.out).2.2 al cP cQ
    obtain rfl:aX=el:=(by injection eX)
    replace cP:=eq_true cP;replace cQ:=eq_true cQ
    have dP:0≤((rd ai (am)):Int):=zd
    have dQ:((rd ai (am)):Int)<((aJ.length:Int):Int):=zd
    obtain⟨dR,dS⟩:=Kd.R_celln 0 au.out ((rd ai (am)):Int) dP dQ
    replace dP:=eq_true dP;replace dQ:=eq_true dQ
    have HN0_go21:=A0_ (show g≠aK from by have h_:=IsS76.own_ne HI0.out au.out (by decide);intro e_;exact h_ (by rw [e_];rfl))
    have HP30:=Kd.R_putn au.out ((rd ai (am)):Int) (rd ai al)
    rw [← ei.out] at HP30
    have HQ30:=A0_ HP30;clear HP30
    refine start_ (n:=12) (S:=fun w'=>w'.cell? (aX.add ((am)).toNat)=some (.int .i64 (rd ai (am)))∧w'.cell? (aX.add (al).toNat)=some (.int .i64 (rd ai al))) (ds := [11]) (bs 12 0) (by kernel_rfl) rfl rfl ⟨bU,bV⟩ (fun hHeld => ?_);refine with_tabW s1e_.tab8 s1e_.bits8 (fun HT_ HW_ => ?_)
    generalize w28.drew=w29 at aC au ag HI0 HK HB HQ27 HQ30 dS dR bU bV hHeld ⊢
    refine zP 0 (some 41) (bs 12 1) ?_
    refine zP 1 (some 42) (bs 12 3) ?_
    refine zP 2 (some 43) (bs 12 7) ?_
    refine zP 3 (some 44) (bs 12 15) ?_
    refine zP 4 (some 45) (bs 12 31) ?_
    refine zP 6 (some 47) (bs 12 95) ?_
    refine zP 7 (some 48) (bs 12 223) ?_
    refine zP 8 (some 49) (bs 12 479) ?_
    refine zT 5 (some 46) (bs 12 511) hHeld ?_
    refine zT 9 (some 50) (bs 12 1023) hHeld ?_
    refine zP 10 (some 51) (bs 12 2047) ?_
    refine last_ (i:=11) (N:=none) (bs 12 4095) rfl rfl (one_of HT_.out (by kernel_rfl)) (by decide) (fun K hK => ?_)
    refine skip_ (w1 := ?_) (by rfl) rfl ?_ ?_
    rotate_left
    ·go_simp
     rfl
    refine hK.out _ _ ?_
    clear hK K
    refine done_ (done_of HT_.out (by kernel_rfl)) ?_
    try go_wp2
    go_roundg k1
    case measure=>have:=bv.out;omega
    case rel=>exact⟨(dE),(wrap64 (al+2)),zt,H',⟨by have:=bv.out;omega⟩,⟨by(with_reducible repeat(first|apply rA|apply rN|apply rD));exact rM (rF (p:=⟨aK,((rd ai (am)):Int).toNat,none⟩) (rM aC.out (fun k_ hk=>(⟨hk,fun e_=>hk (by rw [e_];rfl)⟩:_∧k_≠aK))) (fun _ hk=>hk.2) (.int .i64 (rd ai al))) (fun _ hk=>hk.1)⟩,⟨zR_ HQ30⟩,⟨by refine zbf ?_ _ (hp:=by have h_:=Kd.R_ne au.out ag.out (by decide);intro e_;exact h_ (by rw [e_];rfl));exact zK_ ag⟩,⟨by repeat(first|(with_reducible first|exact HI0.out|apply IsS76.alloc|apply IsS76.drewN|apply IsS76.drew|apply IsS76.set_1|refine IsS76.far ?_ HN0_go21.out _|refine IsS76.far ?_ ar.out _)|exact HI0.out)⟩,⟨by repeat(first|(with_reducible first|exact HK.out|apply KeepBut.set_|apply keep_drewN|apply keep_drew|apply keep_alloc|refine keep_far ?_ GB21.out _|refine keep_far ?_ ce.out _)|exact HK.out)⟩,⟨by repeat(first|(with_reducible first|exact HB.out|apply bA|apply bN|apply bD|refine bS ?_ (Nat.le_trans HL.out GB21.out)|refine bS ?_ (IsS76.ge HI0.out)|refine bS ?_ aQ.out)|exact HB.out)⟩⟩
   rw [if_neg bf] at H;have bg:=dF bf;clear bf;obtain⟨⟨bn,ap⟩,gf,H⟩:=zbind H;dsimp only at H;have H':=A0_ H;clear H
   go_wp2_with (first|((with_reducible refine gC (f:=56) rfl ?_);refine goesL_ (some 54) rfl rfl Tryz.func56 (by kernel_rfl) rfl #[.pointer (some ⟨g,0,none⟩),.int .i64 ax] rfl (by(try simp only [List.map_toArray,List.map_cons,List.map_nil]);first|done|(simp only [aY];rfl)|rfl|(simp only [List.length_drop,List.length_take];rfl)) ?_;(with_reducible refine(s1f_.calls k1 g s0_0 aV ax bn ap w0 _ ?ay ?az gf.out).mono ?_);(case ay=>repeat(first|(with_reducible first|exact HI0.out|apply IsS76.alloc|apply IsS76.drewN|apply IsS76.drew|apply IsS76.set_1|refine IsS76.far ?_ ar.out _)|exact HI0.out));(case az=>repeat(first|(with_reducible first|exact HB.out|apply bA|apply bN|apply bD|refine bS ?_ (IsS76.ge HI0.out)|refine bS ?_ aQ.out)|exact HB.out));rintro e w32 ⟨ib,rfl,a7,hi,hb,hk⟩;refine⟨_,rfl,?_⟩;replace ag:=A0_ (KeepBut.blk hk (g':=ak) (o := .cells #[.slice none 0 0,.slice none 0 0] 25 (0,0)) (zK_ ag) aA.out (by simp));have bB:=A0_ (rL (Kd.R_new' (Kd.R_new' a7 (rX (zR_ aC))) (rX (zR_ au))) (keep_size (w:=w) (g:=g) (row:=none) (zKp HK)));replace aC:=A0_ (rM (rT (Kd.R_oldK (IsS76.apart (show IsS76 w0 _ g s0_0 aV from zIs HI0) (zR_ aC) (by decide)) hk) (Kd.R_base a7)) (fun _ h_=>h_.1));replace au:=A0_ (rM (rT (Kd.R_oldK (IsS76.apart (show IsS76 w0 _ g s0_0 aV from zIs HI0) (zR_ au) (by decide)) hk) (Kd.R_base a7)) (fun _ h_=>h_.1));replace HK:=A0_ (KeepBut.trans (zKp HK) hk (.inl rfl));replace HB:=A0_ (hb);replace HI0:=A0_ (hi);(try clear hb);(try clear a7);obtain⟨cR,cS,eY⟩:=rS au.out;subst eY;obtain⟨ch,ci,eZ⟩:=rS bB.out;subst eZ)|((with_reducible refine gD (N:=9) rfl ?_);refine zX (N:=9) (cs := #[.slice none 0 0,.slice none 0 0]) (t:=25) ?_;intro an hg w35 hbox hb;replace aC:=zR aC hb;replace au:=zR au hb;replace bB:=zR bB hb;replace HB:=A0_ (bT (zBw HB) hb);have ah:=A0_ (hbox);have em:=A0_ ((by rw [hg];exact(keep_size (w:=w) (g:=g) (row:=none) (zKp HK)):w.heap.size≤an));have bh:=A0_ ((Nat.le_trans HW0.out (by rw [hg];exact(keep_size (w:=w) (g:=g) (row:=none) (zKp HK)):w.heap.size≤an):w0.heap.size≤an));replace HK:=A0_ (KeepBut.trans (zKp HK) (KeepBut.of_below hb g none) (.inl rfl));have aq:=zL hg ag;have aD:=zM hg ag;replace ag:=zK ag hb;have av:=A0_ ((by rw [hg];exact Nat.ne_of_lt (IsS76.lt (show IsS76 w0 _ g s0_0 ap from zIs HI0)):g≠an));have aw:=A0_ ((by rw [hg];exact Nat.ne_of_gt (IsS76.lt (show IsS76 w0 _ g s0_0 ap from zIs HI0)):an≠g));replace HI0:=A0_ (IsS76.below (zIs HI0) hb);clear hb hbox hg;have gP:=aD.out;have gQ:=aq.out;have gR:=aw.out;have gT:=av.out;have bo:=zc0 ah;have bp:=zc1 ah;have bq:=kF ah.out 0;have br:=kF ah.out 1))
   go_loopg [10] k1 (fun kq v10 w' => ∃ (aT:Int) (aa:List Int) (ac:List Int) (u407000:Value) (u407001:Value),v10 = .int .i64 aT∧Aside0 (s1e_.l1 kq ax aT s0_0 ap aa ac=some (r1,r2,r3))∧Aside0 (kq≤k1)∧Aside0 (Kd.Q (Kd.int .i64) 3 w' w.heap.size (fun k_=>nO k_ u407001) u407000 aa)∧Aside0 (Kd.R (Kd.int .i64) 3 w' w.heap.size (fun k_=>nO k_ u407000) u407001 ac)∧Aside0 (w'.heap[ak]? = some (.cells #[(.slice none 0 0),(.slice none 0 0)] 25 (0,0)))∧Aside0 (w'.heap[an]? = some (.cells #[u407000,u407001] 25 (0,0)))∧Aside0 (IsS76 w0 w' g s0_0 ap)∧Aside0 (KeepBut w w' g none)∧Aside0 (Below w0.heap.size w0 w'))
   case atStart=>exact⟨(0),(bn),(aJ),(.slice ch bn.length ci),(.slice cR aJ.length cS),zt,H',⟨Nat.le_refl _⟩,⟨Kd.Q_of_R (by(with_reducible repeat(first|apply rA|apply rN|apply rD));exact rM (rF (p:=⟨an,1,none⟩) (rF (p:=⟨an,0,none⟩) (rY bB.out ah.out (by decide)) (fun _ hk=>hk.2) (.slice ch bn.length ci)) (fun _ hk=>hk.2) (.slice cR aJ.length cS)) (fun _ hk=>hk.1.2))⟩,⟨by(with_reducible repeat(first|apply rA|apply rN|apply rD));exact rM (rF (p:=⟨an,1,none⟩) (rF (p:=⟨an,0,none⟩) (rY au.out ah.out (by decide)) (fun _ hk=>hk.2) (.slice ch bn.length ci)) (fun _ hk=>hk.2) (.slice cR aJ.length cS)) (fun _ hk=>hk.1.2)⟩,⟨by refine zbf ?_ _ (hp:=by exact aq.out);refine zbf ?_ _ (hp:=by exact aq.out);exact zK_ ag⟩,⟨by refine zbp (cs := #[.slice ch bn.length ci,.slice none 0 0]) ?_ 1 _ rfl;refine zbp (cs := #[.slice none 0 0,.slice none 0 0]) ?_ 0 _ rfl;exact zK_ ah⟩,⟨zIs HI0⟩,⟨zKp HK⟩,⟨zBw HB⟩⟩
   case round =>
    clear H';(try clear c6);(try clear b6);(try clear b7);(try clear c7);(try clear b8);(try clear b9);(try clear bf);(try clear bg);(try clear bo);(try clear bp);(try clear bq);(try clear br);obtain⟨aT,aa,ac,u407000,u407001,rfl,HA,bW,ab,af,ag,ah,HI0,HK,HB⟩:=hrel
    cases gk with
    | zero=>exact absurd HA.out (by simp [s1e_.l1])
    | succ k2 =>
     have H:=HA.out;clear HA;simp only [s1e_.l1] at H;have cT:=A0_ H;clear H
     go_upto_region 11 with(fail)
     go_cut [64] (fun v64 wc => ∃ (kq:Nat) (bi:Bool),v64 = .bool bi∧Aside0 (s1e_.j2 kq ax aT bi s0_0 ap aa ac=some (r1,r2,r3))∧Aside0 (kq≤k2)∧Aside0 (Kd.Q (Kd.int .i64) 3 wc w.heap.size (fun k_=>nO k_ u407001) u407000 aa)∧Aside0 (Kd.R (Kd.int .i64) 3 wc w.heap.size (fun k_=>nO k_ u407000) u407001 ac)∧Aside0 (wc.heap[ak]? = some (.cells #[(.slice none 0 0),(.slice none 0 0)] 25 (0,0)))∧Aside0 (wc.heap[an]? = some (.cells #[u407000,u407001] 25 (0,0)))∧Aside0 (IsS76 w0 wc g s0_0 ap)∧Aside0 (KeepBut w wc g none)∧Aside0 (Below w0.heap.size w0 wc))
     case first =>
      have H:=cT.out;clear cT
      by_cases bX:aT<ax
      ·rw [if_pos bX] at H
       have bj:=dT bX;clear bX
       (first|rw [bj]|(simp only [i64_w,i32_w];rw [bj])|skip)
       obtain⟨dU,gg,H⟩:=zbind H;have H':=A0_ H;clear H;have gU:=aD.out;have gV:=aq.out;have gW:=aw.out;have gX:=av.out;have fC:=zc0 ah;have fD:=zc1 ah;have fE:=kF ah.out 0;have fF:=kF ah.out 1;obtain⟨ic,id,e4,_⟩:=Kd.Q_slice ab.out;subst e4;obtain⟨ie,ig,e5⟩:=rS af.out;subst e5
       go_wp2_with (first|(go_at_call 27;(with_reducible refine(sw_.calls k2 _ _ aa _ _ ac dU _ ?ay ?az ?cj ?ck gg.out).mono ?_);(case ay=>exact zDQ ab);(case az=>exact(Kd.Q_reads' ab.out).2.1);(case cj=>exact zD af);(case ck=>exact(rR af.out).2.1);rintro e w47 ⟨rfl,hb⟩;replace ab:=A0_ (Kd.Q_below (zQ_ ab) hb);replace af:=zR af hb;replace ag:=zK ag hb;replace ah:=zK ah hb;replace HK:=A0_ (KeepBut.trans (zKp HK) (KeepBut.of_below hb g none) (.inl rfl));replace HB:=A0_ (bT (zBw HB) hb);replace HI0:=A0_ (IsS76.below (zIs HI0) hb);(try clear hb)))
       go_meet
       case rel=>exact⟨_,(!dU),zt,H',⟨by have:=bv.out;have:=bW.out;first|omega|exact Nat.le_refl _⟩,⟨zQ_ ab⟩,⟨zR_ af⟩,⟨zK_ ag⟩,⟨zK_ ah⟩,⟨zIs HI0⟩,⟨zKp HK⟩,⟨zBw HB⟩⟩
      rw [if_neg bX] at H;have bj:=dF bX;clear bX
      (first|rw [bj]|(simp only [i64_w,i32_w];rw [bj])|skip)
      have H':=A0_ H;clear H
      go_wp2
      go_meet
      case rel=>exact⟨_,(false),zt,H',⟨by have:=bv.out;have:=bW.out;first|omega|exact Nat.le_refl _⟩,⟨zQ_ ab⟩,⟨zR_ af⟩,⟨zK_ ag⟩,⟨zK_ ah⟩,⟨zIs HI0⟩,⟨zKp HK⟩,⟨zBw HB⟩⟩
     case rest =>
      clear cT;(try clear c6);(try clear b6);(try clear b7);(try clear c7);(try clear b8);(try clear b9);(try clear bf);(try clear bg);(try clear bo);(try clear bp);(try clear bq);(try clear br);obtain⟨kq,bi,rfl,HA,cl,ab,af,ag,ah,HI0,HK,HB⟩:=hcut
      cases kq with
      | zero=>exact absurd HA.out (by simp [s1e_.j2])
      | succ a4 =>
       have H:=HA.out;clear HA;simp only [s1e_.j2] at H
       by_cases cC:bi=true
       ·subst cC
        have H1:((s10_.f a4 aa ac).bind fun aG=>(s1e_.l2 a4 ax aT aG 0 s0_0 ap aa ac))=some (r1,r2,r3):=by rw [if_pos rfl] at H;exact H
        clear H;have H:=H1;clear H1;obtain⟨aG,gh,H⟩:=zbind H;have H':=A0_ H;clear H;have gY:=aD.out;have gZ:=aq.out;have g6:=aw.out;have g7:=av.out;have dv:=zc0 ah;have dw:=zc1 ah;have dx:=kF ah.out 0;have dy:=kF ah.out 1;obtain⟨bF,aH,e6,_⟩:=Kd.Q_slice ab.out;subst e6;obtain⟨aM,aN,e7⟩:=rS af.out;subst e7
        go_wp2_with (first|((with_reducible refine gC (f:=57) rfl ?_);refine zJ (some 71) Tryz.func57 #[.slice bF aa.length aH,.slice aM ac.length aN] ?_;(with_reducible refine(s10_.calls a4 _ _ aa _ _ ac aG _ ?ay ?az ?cj ?ck gh.out).mono ?_);(case ay=>exact zDQ ab);(case az=>exact(Kd.Q_reads' ab.out).2.1);(case cj=>exact zD af);(case ck=>exact(rR af.out).2.1);rintro e w55 ⟨cU,rfl,a7,hb⟩;refine⟨_,rfl,?_⟩;have en:=A0_ (rL (Kd.R_new' (Kd.R_new' a7 (Kd.Q_lt (zQ_ ab))) (rX (zR_ af))) (keep_size (w:=w) (g:=g) (row:=none) (zKp HK)));replace ab:=A0_ (Kd.Q_elder' (zQ_ ab) (Kd.R_base a7) hb);replace af:=A0_ (Kd.R_elder' (zR_ af) (Kd.R_base a7) hb);replace ag:=zK ag hb;replace ah:=zK ah hb;replace HK:=A0_ (KeepBut.trans (zKp HK) (KeepBut.of_below hb g none) (.inl rfl));replace HB:=A0_ (bT (zBw HB) hb);replace HI0:=A0_ (IsS76.below (zIs HI0) hb);(try clear hb);(try clear a7)))
        go_loopg [12] a4 (fun kq v12 w' => ∃ (aj:Int),v12 = .int .i64 aj∧Aside0 (s1e_.l2 kq ax aT aG aj s0_0 ap aa ac=some (r1,r2,r3))∧Aside0 (kq≤a4)∧Aside0 (Kd.R (Kd.int .i64) 3 w' w.heap.size (fun k_=>some k_≠((.slice bF aa.length aH):Value).ownBlock∧some k_≠((.slice aM ac.length aN):Value).ownBlock) cU aG)∧Aside0 (Kd.Q (Kd.int .i64) 3 w' w.heap.size (fun k_=>nO k_ cU∧some k_≠((.slice aM ac.length aN):Value).ownBlock) (.slice bF aa.length aH) aa)∧Aside0 (Kd.R (Kd.int .i64) 3 w' w.heap.size (fun k_=>nO k_ cU∧some k_≠((.slice bF aa.length aH):Value).ownBlock) (.slice aM ac.length aN) ac)∧Aside0 (w'.heap[ak]? = some (.cells #[(.slice none 0 0),(.slice none 0 0)] 25 (0,0)))∧Aside0 (w'.heap[an]? = some (.cells #[(.slice bF aa.length aH),(.slice aM ac.length aN)] 25 (0,0)))∧Aside0 (IsS76 w0 w' g s0_0 ap)∧Aside0 (KeepBut w w' g none)∧Aside0 (Below w0.heap.size w0 w'))
        case atStart=>exact⟨(0),zt,H',⟨Nat.le_refl _⟩,⟨zmR en (fun _ hk=>⟨hk.1.2,hk.2⟩)⟩,⟨zmQ ab (fun _ hk=>⟨hk.2,hk.1⟩)⟩,⟨zmR af (fun _ hk=>⟨hk.2,hk.1⟩)⟩,⟨zK_ ag⟩,⟨zK_ ah⟩,⟨zIs HI0⟩,⟨zKp HK⟩,⟨zBw HB⟩⟩
        case round =>
         clear H';(try clear c6);(try clear b6);(try clear b7);(try clear c7);(try clear b8);(try clear b9);(try clear bf);(try clear bg);(try clear cC);(try clear bo);(try clear bp);(try clear dv);(try clear dw);(try clear bq);(try clear br);(try clear dx);(try clear dy);obtain⟨aj,rfl,HA,dn,aI,ab,af,ag,ah,HI0,HK,HB⟩:=hrel
         cases gk with
         | zero=>exact absurd HA.out (by simp [s1e_.l2])
         | succ k4 =>
          have H:=HA.out;clear HA;simp only [s1e_.l2] at H
          have eP:=zpc H;replace H:=zph H
          have g8:=dT eP;clear eP
          have eQ:=zpc H;replace H:=zph H
          have g9:=dT eQ;clear eQ
          by_cases bG:(rd aG aj)=0
          ·rw [if_pos bG] at H
           have eo:((rd aG aj) == 0)=true:=beq_iff_eq.mpr bG
           have ep:((rd aG aj) != 0)=false:=bne_eq_false_iff_eq.mpr bG
           clear bG;have H':=A0_ H;clear H;obtain⟨ii,ij,e8⟩:=rS aI.out;subst e8
           have bb:0≤(aj:Int):=zd
           have bc:aj<(aG.length:Int):=zd
           obtain⟨a9,cV,dz⟩:=tI (rR aI.out).2.2 aj bb bc
           cases cV
           replace bb:=eq_true bb;replace bc:=eq_true bc
           go_wp2
           go_roundg k4
           case measure=>have:=bv.out;have:=bW.out;have:=cl.out;have:=dn.out;omega
           case rel=>exact⟨(wrap64 (aj+1)),zt,H',⟨by have:=bv.out;have:=bW.out;have:=cl.out;have:=dn.out;omega⟩,⟨zR_ aI⟩,⟨zQ_ ab⟩,⟨zR_ af⟩,⟨zK_ ag⟩,⟨zK_ ah⟩,⟨zIs HI0⟩,⟨zKp HK⟩,⟨zBw HB⟩⟩
          rw [if_neg bG] at H
          have eo:((rd aG aj) == 0)=false:=beq_eq_false_iff_ne.mpr bG
          have ep:((rd aG aj) != 0)=true:=bne_iff_ne.mpr bG
          have eR:=zpc H;replace H:=zph H
          have hh:=dT eR
          have hu:decide (0<aa.length)=true:=dT (by omega)
          clear eR
          have eS:=zpc H;replace H:=zph H
          have hD:=dT eS;clear eS
          obtain⟨cW,cm⟩ : ∃ y_:List Int,y_=(aa.set (0:Int).toNat (rd aa aj)):=⟨_,rfl⟩
          replace H:(s1e_.l1 k4 ax (wrap64 (aT+1)) s0_0 ap (cW.set (aj:Int).toNat (rd aa 0)) ac)=some (r1,r2,r3):=zH cm H
          have eq:=A0_ cm;clear cm
          obtain⟨cX,cn⟩ : ∃ y_:List Int,y_=(cW.set (aj:Int).toNat (rd aa 0)):=⟨_,rfl⟩
          replace H:(s1e_.l1 k4 ax (wrap64 (aT+1)) s0_0 ap cX ac)=some (r1,r2,r3):=zH cn H
          have er:=A0_ cn;clear cn;have H':=A0_ H;clear H;obtain⟨ik,bH,e9⟩:=rS aI.out;subst e9
          have bb:0≤(aj:Int):=zd
          have bc:aj<(aG.length:Int):=zd
          obtain⟨a9,cV,dz⟩:=tI (rR aI.out).2.2 aj bb bc
          cases cV
          replace bb:=eq_true bb;replace bc:=eq_true bc;have hE:=aD.out;have hG:=aq.out;have hH:=aw.out;have hJ:=av.out;have fG:=zc0 ah;have fH:=zc1 ah;have fI:=kF ah.out 0;have fJ:=kF ah.out 1
          have cY:0≤(0:Int):=(by omega)
          have cZ:0<(aa.length:Int):=zd
          obtain⟨es,fa,ba⟩:=tI (Kd.Q_reads' ab.out).2.2 0 cY cZ
          cases fa
          have qi412:(0<aa.length)=True:=eq_true (by omega)
          (try rw [show((0:Int)).toNat=0 from rfl] at ba)
          (try rw [Addr.add_zero'] at ba)
          replace cY:=eq_true cY;replace cZ:=eq_true cZ
          try go_wp2
          replace aI:=A0_ (rD aI.out)
          replace ab:=A0_ (Kd.Q_drew ab.out)
          replace af:=A0_ (rD af.out)
          replace ag:=A0_ (kD ag.out)
          replace ah:=A0_ (kD ah.out)
          replace HI0:=A0_ (IsS76.drew HI0.out)
          replace HK:=A0_ (keep_drew HK.out)
          replace HB:=A0_ (bD HB.out)
          have da:0≤(aj:Int):=zd
          have db:aj<(aa.length:Int):=zd
          obtain⟨et,fb,bu⟩:=tI (Kd.Q_reads' ab.out).2.2 aj da db
          obtain rfl:es=et:=(by injection fb)
          replace da:=eq_true da;replace db:=eq_true db
          have dV:0≤(0:Int):=(by omega)
          have dW:(0:Int)<((aa.length:Int):Int):=zd
          have qi62:(0<aa.length)=True:=eq_true (by omega)
          obtain⟨ao,oo62,il,dX,dY,gl62,cl62,HG62⟩:=Kd.Q_form ab.out (by omega)
          (first|cases dX|(injection dX with ea_ en_ ec_;(first|subst ea_|(injection ea_ with ea_;subst ea_));subst ec_;clear en_))
          have GB62:=A0_ dY;have GG62:=A0_ HG62;clear dY gl62 HG62
          (first|simp only [add_at] at ba|skip)
          (first|simp only [add_at] at bu|skip)
          obtain⟨bI,bJ⟩:=Kd.Q_cell 0 ab.out (0:Int) dV dW
          (try rw [show((0:Int)).toNat=0 from rfl] at bI)
          (try simp only [Nat.reduceMul,Nat.zero_mul,Nat.zero_add,Nat.add_zero,Nat.reduceAdd] at bI)
          (try rw [show((0:Int)).toNat=0 from rfl] at bJ)
          (try simp only [Nat.reduceMul,Nat.zero_mul,Nat.zero_add,Nat.add_zero,Nat.reduceAdd] at bJ)
          replace dV:=eq_true dV;replace dW:=eq_true dW
          have HN0_go62:=A0_ (show g≠ao from by have h_:=IsS76.own_neQ HI0.out ab.out (by decide);intro e_;exact h_ (by rw [e_];rfl))
          have HP69:=(Kd.Q_putg ab.out (0:Int) (by omega) (by have h_:(0:Int)<((aa.length:Int):Int):=zd;first|exact h_|(have e_:=(Kd.Q_reads' ab.out).1;omega)|simpa using h_) (rd aa aj)).1
          rw [← eq.out] at HP69
          have HQ69:=A0_ HP69;clear HP69
          refine start_ (n:=9) (S:=fun w'=>w'.cell? ⟨an,0,none⟩=some (.slice (some ⟨ao,oo62,none⟩) aa.length aH)∧w'.cell? ⟨an,1,none⟩=some (.slice aM ac.length aN)∧w'.cell? ⟨ao,oo62+(aj).toNat,none⟩=some (.int .i64 (rd aa aj))) (ds := [8]) (bs 9 0) (by kernel_rfl) rfl rfl ⟨(kC ah.out 0).trans rfl,(kC ah.out 1).trans rfl,bu⟩ (fun hHeld => ?_);refine with_tabW s1e_.tab18 s1e_.bits18 (fun HT_ HW_ => ?_)
          generalize wr.drew=w68 at aI ab af ag ah HI0 HK HB GG62 HQ69 bJ ba bu bI hHeld ⊢
          refine zP 0 (some 83) (bs 9 1) ?_
          refine zP 2 (some 85) (bs 9 5) ?_
          refine zP 4 (some 87) (bs 9 21) ?_
          refine zT 1 (some 84) (bs 9 23) hHeld ?_
          refine zT 3 (some 86) (bs 9 31) hHeld ?_
          refine zP 5 (some 88) (bs 9 63) ?_
          refine zT 6 (some 89) (bs 9 127) hHeld ?_
          refine zP 7 (some 90) (bs 9 255) ?_
          refine last_ (i:=8) (N:=none) (bs 9 511) rfl rfl (one_of HT_.out (by kernel_rfl)) (by decide) (fun K hK => ?_)
          refine skip_ (w1 := ?_) (by rfl) rfl ?_ ?_
          rotate_left
          ·go_simp
           rfl
          refine hK.out _ _ ?_
          clear hK K
          refine done_ (done_of HT_.out (by kernel_rfl)) ?_
          have n0_:Aside0 (Kd.R (Kd.int .i64) 3 (w68.setCell ⟨ao,oo62,none⟩ (.int .i64 (rd aa aj))) w.heap.size (fun k_=>some k_≠(.slice (some ⟨ao,oo62,none⟩) aa.length aH:Value).ownBlock∧nL k_ aM ac aN) (.slice (some a9) aG.length bH) aG):=⟨by(with_reducible repeat(first|apply rA|apply rN|apply rD));exact rM (rF (p:=⟨ao,oo62,none⟩) (rM aI.out (fun k_ hk=>(⟨hk,fun e_=>hk.1 (by rw [e_];rfl)⟩:_∧k_≠ao))) (fun _ hk=>hk.2) (.int .i64 (rd aa aj))) (fun _ hk=>⟨hk.1.1,hk.1.2⟩)⟩
          have n1_:Aside0 (Kd.Q (Kd.int .i64) 3 (w68.setCell ⟨ao,oo62,none⟩ (.int .i64 (rd aa aj))) w.heap.size (fun k_=>nL k_ (some a9) aG bH∧nL k_ aM ac aN) (.slice (some ⟨ao,oo62,none⟩) aa.length aH) cW):=⟨zQ_ HQ69⟩
          have n2_:Aside0 (Kd.R (Kd.int .i64) 3 (w68.setCell ⟨ao,oo62,none⟩ (.int .i64 (rd aa aj))) w.heap.size (fun k_=>nL k_ (some a9) aG bH∧some k_≠(.slice (some ⟨ao,oo62,none⟩) aa.length aH:Value).ownBlock) (.slice aM ac.length aN) ac):=⟨by(with_reducible repeat(first|apply rA|apply rN|apply rD));exact rM (rF (p:=⟨ao,oo62,none⟩) (rM af.out (fun k_ hk=>(⟨hk,fun e_=>hk.2 (by rw [e_];rfl)⟩:_∧k_≠ao))) (fun _ hk=>hk.2) (.int .i64 (rd aa aj))) (fun _ hk=>⟨hk.1.1,hk.1.2⟩)⟩
          have n3_:Aside0 ((w68.setCell ⟨ao,oo62,none⟩ (.int .i64 (rd aa aj))).heap[ak]? = some (.cells #[.slice none 0 0,.slice none 0 0] 25 (0,0))):=⟨by refine zbf ?_ _ (hp:=by have h_:=Kd.Q_ne ab.out ag.out (by decide);intro e_;exact h_ (by rw [e_];rfl));exact zK_ ag⟩
          have n4_:Aside0 ((w68.setCell ⟨ao,oo62,none⟩ (.int .i64 (rd aa aj))).heap[an]? = some (.cells #[.slice (some ⟨ao,oo62,none⟩) aa.length aH,.slice aM ac.length aN] 25 (0,0))):=⟨by refine zbf ?_ _ (hp:=by have h_:=Kd.Q_ne ab.out ah.out (by decide);intro e_;exact h_ (by rw [e_];rfl));exact zK_ ah⟩
          have n5_:Aside0 (IsS76 w0 (w68.setCell ⟨ao,oo62,none⟩ (.int .i64 (rd aa aj))) g s0_0 ap):=⟨by repeat(first|(with_reducible first|exact HI0.out|apply IsS76.alloc|apply IsS76.drewN|apply IsS76.drew|apply IsS76.set_1|refine IsS76.far ?_ HN0_go62.out _|refine IsS76.far ?_ ar.out _|refine IsS76.far ?_ av.out _)|exact HI0.out)⟩
          have n6_:Aside0 (KeepBut w (w68.setCell ⟨ao,oo62,none⟩ (.int .i64 (rd aa aj))) g none):=⟨by repeat(first|(with_reducible first|exact HK.out|apply KeepBut.set_|apply keep_drewN|apply keep_drew|apply keep_alloc|refine keep_far ?_ GB62.out _|refine keep_far ?_ ce.out _|refine keep_far ?_ em.out _)|exact HK.out)⟩
          have n7_:Aside0 (Below w0.heap.size w0 (w68.setCell ⟨ao,oo62,none⟩ (.int .i64 (rd aa aj)))):=⟨by repeat(first|(with_reducible first|exact HB.out|apply bA|apply bN|apply bD|refine bS ?_ (Nat.le_trans HL.out GB62.out)|refine bS ?_ (IsS76.ge HI0.out)|refine bS ?_ aQ.out|refine bS ?_ bh.out)|exact HB.out)⟩
          (try clear aI);(try clear ab);(try clear af);(try clear ag);(try clear ah);(try clear HI0);(try clear HK);(try clear HB)
          generalize (w68.setCell ⟨ao,oo62,none⟩ (.int .i64 (rd aa aj)))=w70 at n0_ n1_ n2_ n3_ n4_ n5_ n6_ n7_ ⊢
          have aI:=n0_;have ab:=n1_;have af:=n2_;have ag:=n3_;have ah:=n4_;have HI0:=n5_;have HK:=n6_;have HB:=n7_;clear n0_ n1_ n2_ n3_ n4_ n5_ n6_ n7_;have fK:=zc0 ah;have fL:=zc1 ah;have fM:=kF ah.out 0;have fN:=kF ah.out 1
          have dZ:0≤(aj:Int):=zd
          have d4:(aj:Int)<((aa.length:Int):Int):=zd
          obtain⟨gj,gl⟩:=Kd.Q_cell 0 ab.out (aj:Int) dZ d4
          replace dZ:=eq_true dZ;replace d4:=eq_true d4
          obtain⟨hy72_,hz72_⟩:=Kd.Q_cell 0 ab.out (aj:Int) (zd) (zd)
          have HP72:=Kd.Q_putg ab.out (aj:Int) (zd) (by have h_:(aj:Int)<((aa.length:Int):Int):=zd;first|exact h_|(have e_:=(Kd.Q_reads' ab.out).1;omega)|simpa using h_) (rd aa 0)
          try go_wp2_with (first|((with_reducible refine gS (t:=3) (p:=95) rfl ?_);refine store_event (t:=3) (p:=95) (v := ?vo_w73) (w1:=(w70.setCell ⟨ao,oo62+(aj:Int).toNat,none⟩ (.int .i64 (rd aa 0)))) ?hg ?ho ?hn ?hr ?_;(case ho=>rfl);(case hg=>rfl);(case hn=>rfl);(case hr=>first|(go_simp;done)|(go_simp;rfl));intro w73 hw;have hg:w70.grownBy w73 (some ao):=(by rw [hw];exact HP72.2);have hp_:Kd.Q (Kd.int .i64) 3 w73 w.heap.size (fun k_=>nL k_ (some a9) aG bH∧nL k_ aM ac aN) (.slice (some ⟨ao,oo62,none⟩) aa.length aH) cX:=(by rw [hw,er.out];exact HP72.1);clear HP72;replace aI:=A0_ (Kd.R_after (v:=(.slice (some ⟨ao,oo62,none⟩) aa.length aH)) (v1:=(.slice (some ⟨ao,oo62,none⟩) aa.length aH)) (ok:=(fun k_=>nL k_ aM ac aN)) (zmR aI (fun _ hk=>⟨hk.2,hk.1⟩)) hg (.inl rfl));replace af:=A0_ (Kd.R_after (v:=(.slice (some ⟨ao,oo62,none⟩) aa.length aH)) (v1:=(.slice (some ⟨ao,oo62,none⟩) aa.length aH)) (ok:=(fun k_=>nL k_ (some a9) aG bH)) (zR_ af) hg (.inl rfl));replace ag:=A0_ (blk_grown (g:=ak) (o := .cells #[.slice none 0 0,.slice none 0 0] 25 (0,0)) (zK_ ag) hg (Kd.Q_ne ab.out ag.out (by decide)));replace ah:=A0_ (blk_grown (g:=an) (o := .cells #[.slice (some ⟨ao,oo62,none⟩) aa.length aH,.slice aM ac.length aN] 25 (0,0)) (zK_ ah) hg (Kd.Q_ne ab.out ah.out (by decide)));replace HI0:=A0_ (IsS76.grown (zIs HI0) hg (IsS76.own_neQ HI0.out ab.out (by decide)));replace HB:=A0_ ((by rw [hw];exact bS (HB.out) (Nat.le_trans HL.out GB62.out):Below w0.heap.size w0 w73));replace HK:=A0_ (KeepBut.trans (zKp HK) (KeepBut.of_grown hg g) (Kd.Q_base2 ab.out));replace ab:=A0_ (hp_);clear hg hw hp_))
          go_roundg k4
          case measure=>have:=bv.out;have:=bW.out;have:=cl.out;have:=dn.out;omega
          case rel=>exact⟨(wrap64 (aT+1)),(cX),(ac),(.slice (some ⟨ao,oo62,none⟩) aa.length aH),(.slice aM ac.length aN),zt,H',⟨by have:=bv.out;have:=bW.out;have:=cl.out;have:=dn.out;omega⟩,⟨zmQ ab (fun _ hk=>hk.2)⟩,⟨zmR af (fun _ hk=>hk.2)⟩,⟨zK_ ag⟩,⟨zK_ ah⟩,⟨zIs HI0⟩,⟨zKp HK⟩,⟨zBw HB⟩⟩
       replace cC:=Bool.eq_false_iff.mpr cC;subst cC
       have H1:((s15_.f a4 s0_0 ap 50).bind fun a5=>(if a5.1=0 then (if 0<(ac.length:Int) then (some (aa,(ac.set (0:Int).toNat 0),a5.2)) else (none)) else (if a5.1=1 then (if 1≤(aa.length:Int) then (some ((aa.drop (1:Int).toNat),ac,a5.2)) else (none)) else (if a5.1=2 then (if 0<(aa.length:Int) then (some ((aa.set (0:Int).toNat ax),ac,a5.2)) else (none)) else (some (aa,ac,a5.2))))))=some (r1,r2,r3):=by rw [if_neg (show ¬ (false=true) by decide)] at H;exact H
       clear H;have H:=H1;clear H1;obtain⟨⟨aE,bd⟩,dp,H⟩:=zbind H;dsimp only at H
       by_cases bK:aE=0
       ·rw [if_pos bK] at H
        have eu:(aE == 0)=true:=beq_iff_eq.mpr bK
        have ev:(aE != 0)=false:=bne_eq_false_iff_eq.mpr bK
        clear bK
        have eT:=zpc H;replace H:=zph H
        have hL:=dT eT
        have hM:decide (0<ac.length)=true:=dT (by omega)
        clear eT
        obtain⟨d5,cp⟩ : ∃ y_:List Int,y_=(ac.set (0:Int).toNat 0):=⟨_,rfl⟩
        replace H:(some (aa,d5,bd))=some (r1,r2,r3):=zH cp H
        have ew:=A0_ cp;clear cp;simp only [Option.some.injEq,Prod.mk.injEq] at H;obtain⟨rfl,rfl,rfl⟩:=H
        go_wp2_with (first|((with_reducible refine gC (f:=22) rfl ?_);refine zJ (some 97) Tryz.func22 #[.pointer (some ⟨g,0,none⟩),.int .i64 50] ?_;(with_reducible refine(s15_.calls a4 g s0_0 ap 50 aE bd w0 _ ?ay ?az dp.out).mono ?_);(case ay=>repeat(first|(with_reducible first|exact HI0.out|apply IsS76.alloc|apply IsS76.drewN|apply IsS76.drew|apply IsS76.set_1|refine IsS76.far ?_ ar.out _|refine IsS76.far ?_ av.out _)|exact HI0.out));(case az=>repeat(first|(with_reducible first|exact HB.out|apply bA|apply bN|apply bD|refine bS ?_ (IsS76.ge HI0.out)|refine bS ?_ aQ.out|refine bS ?_ bh.out)|exact HB.out));rintro e w78 ⟨rfl,hi,hb,hk⟩;refine⟨_,rfl,?_⟩;replace ab:=A0_ (Kd.Q_mono (Kd.Q_keep (IsS76.apartQ (show IsS76 w0 _ g s0_0 ap from zIs HI0) (zQ_ ab) (by decide)) hk (fun _ h=>h.2)) (fun _ h=>h.1));replace af:=A0_ (rM (Kd.R_keep (IsS76.apart (show IsS76 w0 _ g s0_0 ap from zIs HI0) (zR_ af) (by decide)) hk (fun _ h=>h.2)) (fun _ h=>h.1));replace ag:=A0_ (KeepBut.blk hk (g':=ak) (o := .cells #[.slice none 0 0,.slice none 0 0] 25 (0,0)) (zK_ ag) aA.out (by simp));replace ah:=A0_ (KeepBut.blk hk (g':=an) (o := .cells #[u407000,u407001] 25 (0,0)) (zK_ ah) aw.out (by simp));replace HK:=A0_ (KeepBut.trans (zKp HK) hk (.inl rfl));replace HB:=A0_ (hb);replace HI0:=A0_ (hi);(try clear hb);have hO:=aD.out;have hP:=aq.out;have hQ:=aw.out;have hU:=av.out;have fO:=zc0 ah;have fP:=zc1 ah;have fQ:=kF ah.out 0;have fR:=kF ah.out 1;have d6:0≤(0:Int):=(by omega);have d7:(0:Int)<((ac.length:Int):Int):=zd;have qi77:(0<ac.length)=True:=eq_true (by omega);obtain⟨a6,be,d8,d9,gl77,cl77,HG77⟩:=Kd.R_form af.out (by omega);(first|cases d8|(injection d8 with ea_ en_ ec_;(first|subst ea_|(injection ea_ with ea_;subst ea_));subst ec_;clear en_));have GB77:=A0_ d9;have GG77:=A0_ HG77;clear d9 gl77 HG77;obtain⟨cE,cF⟩:=Kd.R_celln 0 af.out (0:Int) d6 d7;(try rw [show((0:Int)).toNat=0 from rfl] at cE);(try simp only [Nat.reduceMul,Nat.zero_mul,Nat.zero_add,Nat.add_zero,Nat.reduceAdd] at cE);(try rw [show((0:Int)).toNat=0 from rfl] at cF);(try simp only [Nat.reduceMul,Nat.zero_mul,Nat.zero_add,Nat.add_zero,Nat.reduceAdd] at cF);replace d6:=eq_true d6;replace d7:=eq_true d7;obtain⟨hy82_,hz82_⟩:=Kd.R_celln 0 af.out (0:Int) (by omega) (zd);(try simp only [Int.reduceToNat,Int.toNat_zero,Int.toNat_ofNat,Nat.reduceMul,Nat.zero_mul,Nat.zero_add,Nat.add_zero] at hy82_ hz82_);(try rw [show((0:Int)).toNat=0 from rfl] at hy82_);(try rw [show((0:Int)).toNat=0 from rfl] at hz82_);have HP82:=Kd.R_putg af.out (0:Int) 0)|((with_reducible refine gS (t:=3) (p:=102) rfl ?_);refine store_event (t:=3) (p:=102) (v := ?vo_w83) (w1:=(w78.setCell ⟨a6,(0:Int).toNat,none⟩ (.int .i64 0))) ?hg ?ho ?hn ?hr ?_;(case ho=>rfl);(case hg=>rfl);(case hn=>rfl);(case hr=>first|(go_simp;done)|(go_simp;rfl));intro w83 hw;have hg:w78.grownBy w83 (some a6):=(by rw [hw];exact HP82.2);have hp_:Kd.R (Kd.int .i64) 3 w83 w.heap.size (fun k_=>nO k_ u407000) (.slice (some ⟨a6,0,none⟩) ac.length be) d5:=(by rw [hw,ew.out];exact HP82.1);clear HP82;replace ab:=A0_ (Kd.Q_after (v:=(.slice (some ⟨a6,0,none⟩) ac.length be)) (v1:=(.slice (some ⟨a6,0,none⟩) ac.length be)) (ok:=(fun _=>True)) (zmQ ab (fun _ hk=>⟨trivial,hk⟩)) hg (.inl rfl));replace ag:=A0_ (blk_grown (g:=ak) (o := .cells #[.slice none 0 0,.slice none 0 0] 25 (0,0)) (zK_ ag) hg (Kd.R_ne af.out ag.out (by decide)));replace ah:=A0_ (blk_grown (g:=an) (o := .cells #[u407000,.slice (some ⟨a6,0,none⟩) ac.length be] 25 (0,0)) (zK_ ah) hg (Kd.R_ne af.out ah.out (by decide)));replace HI0:=A0_ (IsS76.grown (zIs HI0) hg (IsS76.own_ne HI0.out af.out (by decide)));replace HB:=A0_ ((by rw [hw];exact bS (HB.out) (Nat.le_trans HL.out GB77.out):Below w0.heap.size w0 w83));replace HK:=A0_ (KeepBut.trans (zKp HK) (KeepBut.of_grown hg g) (Kd.R_base2 af.out));replace af:=A0_ (hp_);clear hg hw hp_;have fS:=zc0 ah;have fT:=zc1 ah;have fU:=kF ah.out 0;have fV:=kF ah.out 1;obtain⟨cq,cr,fc,_⟩:=Kd.Q_slice ab.out;subst fc;have hV:=aA.out;have hW:=ar.out;have fW:=zc0 ag;have fX:=zc1 ag;have fY:=kF ag.out 0;have fZ:=kF ag.out 1))
        refine bodyPost_ret (results_cell_row rfl _ _ ak 25 #[.slice cq aa.length cr,.slice (some ⟨a6,0,none⟩) ac.length be] (0,0) _ rfl (by refine zbp (cs := #[.slice cq aa.length cr,.slice none 0 0]) ?_ 1 _ rfl;refine zbp (cs := #[.slice none 0 0,.slice none 0 0]) ?_ 0 _ rfl;exact zK_ ag) Tryz.underlying25 rfl (by kernel_rfl)) rfl ?_
        exact⟨_,_,by first|rfl|(simp [errW_none,errW_some] <;> rfl)|(simp only [← aY];first|rfl|(simp [errW_none,errW_some] <;> rfl))|(simp [*,errW_none,errW_some] <;> rfl),by(with_reducible repeat(first|apply Kd.Q_alloc|apply Kd.Q_drewN|apply Kd.Q_drew));exact Kd.Q_mono (Kd.Q_far (p:=⟨ak,1,none⟩) (Kd.Q_far (p:=⟨ak,0,none⟩) (Kd.Q_types ab.out ag.out (by decide)) (fun _ hk=>hk.2) (.slice cq aa.length cr)) (fun _ hk=>hk.2) (.slice (some ⟨a6,0,none⟩) ac.length be)) (fun _ hk=>hk.1.2),zF af ag (.slice cq aa.length cr) (.slice (some ⟨a6,0,none⟩) ac.length be) 0 1,zIs HI0,zBw HB,zKp HK⟩
       rw [if_neg bK] at H
       have eu:(aE == 0)=false:=beq_eq_false_iff_ne.mpr bK
       have ev:(aE != 0)=true:=bne_iff_ne.mpr bK
       by_cases bL:aE=1
       ·rw [if_pos bL] at H
        have ex:(aE == 1)=true:=beq_iff_eq.mpr bL
        have ey:(aE != 1)=false:=bne_eq_false_iff_eq.mpr bL
        clear bL
        have eb:=zpc H;replace H:=zph H
        have hX:=eq_true eb;have hY:=dT eb;clear eb
        obtain⟨aW,ct⟩ : ∃ y_:List Int,y_=(aa.drop (1:Int).toNat):=⟨_,rfl⟩
        replace H:(some (aW,ac,bd))=some (r1,r2,r3):=zH ct H
        have dq:=A0_ ct;clear ct;simp only [Option.some.injEq,Prod.mk.injEq] at H;obtain⟨rfl,rfl,rfl⟩:=H
        go_wp2_with (first|((with_reducible refine gC (f:=22) rfl ?_);refine zJ (some 97) Tryz.func22 #[.pointer (some ⟨g,0,none⟩),.int .i64 50] ?_;(with_reducible refine(s15_.calls a4 g s0_0 ap 50 aE bd w0 _ ?ay ?az dp.out).mono ?_);(case ay=>repeat(first|(with_reducible first|exact HI0.out|apply IsS76.alloc|apply IsS76.drewN|apply IsS76.drew|apply IsS76.set_1|refine IsS76.far ?_ ar.out _|refine IsS76.far ?_ av.out _)|exact HI0.out));(case az=>repeat(first|(with_reducible first|exact HB.out|apply bA|apply bN|apply bD|refine bS ?_ (IsS76.ge HI0.out)|refine bS ?_ aQ.out|refine bS ?_ bh.out)|exact HB.out));rintro e w90 ⟨rfl,hi,hb,hk⟩;refine⟨_,rfl,?_⟩;replace ab:=A0_ (Kd.Q_mono (Kd.Q_keep (IsS76.apartQ (show IsS76 w0 _ g s0_0 ap from zIs HI0) (zQ_ ab) (by decide)) hk (fun _ h=>h.2)) (fun _ h=>h.1));replace af:=A0_ (rM (Kd.R_keep (IsS76.apart (show IsS76 w0 _ g s0_0 ap from zIs HI0) (zR_ af) (by decide)) hk (fun _ h=>h.2)) (fun _ h=>h.1));replace ag:=A0_ (KeepBut.blk hk (g':=ak) (o := .cells #[.slice none 0 0,.slice none 0 0] 25 (0,0)) (zK_ ag) aA.out (by simp));replace ah:=A0_ (KeepBut.blk hk (g':=an) (o := .cells #[u407000,u407001] 25 (0,0)) (zK_ ah) aw.out (by simp));replace HK:=A0_ (KeepBut.trans (zKp HK) hk (.inl rfl));replace HB:=A0_ (hb);replace HI0:=A0_ (hi);(try clear hb);have hZ:=aD.out;have h4:=aq.out;have h5:=aw.out;have h6:=av.out;have f2:=zc0 ah;have f3:=zc1 ah;have f4:=kF ah.out 0;have f6:=kF ah.out 1;obtain⟨bM,cu,fd,_⟩:=Kd.Q_slice ab.out;subst fd;have ec:(1:Int)≤((aa.length:Int):Int):=zd;obtain⟨i095,dr,_,hsz95,_⟩:=info_parts info3;have hcut95:=cut_from (P:=Tryz.prog) 23 3 .i64 Tryz.underlying23 dr 1 hsz95 bM aa.length cu 1 (by omega) ec;have bO:=Kd.Q_drop (k:=(1:Int).toNat) ab.out (by omega);obtain⟨bk,hA95⟩ : ∃ A1,A1=(if cu=(1:Int).toNat then bM else (bM:Option Addr).map (·.add ((1:Int).toNat*1))):=⟨_,rfl⟩;obtain⟨bl,dc⟩ : ∃ c1,c1=cu - (1:Int).toNat:=⟨_,rfl⟩;have dd:aW.length=aa.length - (1:Int).toNat:=(by rw [dq.out,List.length_drop]);rw [← dq.out] at bO;rw [← dd,← hA95,← dc] at hcut95;replace bO:Kd.Q (Kd.int .i64) 3 w90 w.heap.size (fun k_=>nO k_ u407001) (.slice bk aW.length bl) aW:=(by rw [hA95,dc,dd];exact bO);have HE95:Aside0 ((Value.slice bk aW.length bl).ownBlock=(.slice bM aa.length cu:Value).ownBlock):=⟨by rw [hA95];split <;> (cases (bM:Option Addr) <;> rfl)⟩;clear dd dr hsz95 ab hA95 dc;have ez:=A0_ bO;clear bO;replace ec:=eq_true ec;have n_:=A0_ (rM (ok':=fun k_=>nL k_ bk aW bl) af.out (fun k_ hk=>(by show some k_≠Value.ownBlock _;rw [HE95.out];exact hk)));clear af;have af:=n_;clear n_;have h7:=aA.out;have h8:=ar.out;have f7:=zc0 ag;have f8:=zc1 ag;have f9:=kF ag.out 0;have gd:=kF ag.out 1;obtain⟨de,df,fe⟩:=rS af.out;subst fe))
        refine bodyPost_ret (results_cell_row rfl _ _ ak 25 #[.slice bk aW.length bl,.slice de ac.length df] (0,0) _ rfl (by refine zbp (cs := #[.slice bk aW.length bl,.slice none 0 0]) ?_ 1 _ rfl;refine zbp (cs := #[.slice none 0 0,.slice none 0 0]) ?_ 0 _ rfl;refine zbf ?_ _ (hp:=by exact aq.out);exact zK_ ag) Tryz.underlying25 rfl (by kernel_rfl)) rfl ?_
        exact⟨_,_,by first|rfl|(simp [errW_none,errW_some] <;> rfl)|(simp only [← aY];first|rfl|(simp [errW_none,errW_some] <;> rfl))|(simp [*,errW_none,errW_some] <;> rfl),by(with_reducible repeat(first|apply Kd.Q_alloc|apply Kd.Q_drewN|apply Kd.Q_drew));exact Kd.Q_mono (Kd.Q_far (p:=⟨ak,1,none⟩) (Kd.Q_far (p:=⟨ak,0,none⟩) (Kd.Q_far (p:=⟨an,0,none⟩) (Kd.Q_types (Kd.Q_types ez.out ah.out (by decide)) ag.out (by decide)) (fun _ hk=>hk.1.2) (.slice bk aW.length bl)) (fun _ hk=>hk.2) (.slice bk aW.length bl)) (fun _ hk=>hk.2) (.slice de ac.length df)) (fun _ hk=>hk.1.1),by(with_reducible repeat(first|apply rA|apply rN|apply rD));exact rM (rF (p:=⟨ak,1,none⟩) (rF (p:=⟨ak,0,none⟩) (rF (p:=⟨an,0,none⟩) (rY (rY af.out ah.out (by decide)) ag.out (by decide)) (fun _ hk=>hk.1.2) (.slice bk aW.length bl)) (fun _ hk=>hk.2) (.slice bk aW.length bl)) (fun _ hk=>hk.2) (.slice de ac.length df)) (fun _ hk=>hk.1.1),zIs HI0,zBw HB,zKp HK⟩
       rw [if_neg bL] at H
       have ex:(aE == 1)=false:=beq_eq_false_iff_ne.mpr bL
       have ey:(aE != 1)=true:=bne_iff_ne.mpr bL
       by_cases bP:aE=2
       ·rw [if_pos bP] at H
        have eB:(aE == 2)=true:=beq_iff_eq.mpr bP
        have eC:(aE != 2)=false:=bne_eq_false_iff_eq.mpr bP
        clear bP
        have ed:=zpc H;replace H:=zph H
        have gn:=dT ed
        have gp:decide (0<aa.length)=true:=dT (by omega)
        clear ed
        obtain⟨ee,cv⟩ : ∃ y_:List Int,y_=(aa.set (0:Int).toNat ax):=⟨_,rfl⟩
        replace H:(some (ee,ac,bd))=some (r1,r2,r3):=zH cv H
        have eD:=A0_ cv;clear cv;simp only [Option.some.injEq,Prod.mk.injEq] at H;obtain⟨rfl,rfl,rfl⟩:=H
        go_wp2_with (first|((with_reducible refine gC (f:=22) rfl ?_);refine zJ (some 97) Tryz.func22 #[.pointer (some ⟨g,0,none⟩),.int .i64 50] ?_;(with_reducible refine(s15_.calls a4 g s0_0 ap 50 aE bd w0 _ ?ay ?az dp.out).mono ?_);(case ay=>repeat(first|(with_reducible first|exact HI0.out|apply IsS76.alloc|apply IsS76.drewN|apply IsS76.drew|apply IsS76.set_1|refine IsS76.far ?_ ar.out _|refine IsS76.far ?_ av.out _)|exact HI0.out));(case az=>repeat(first|(with_reducible first|exact HB.out|apply bA|apply bN|apply bD|refine bS ?_ (IsS76.ge HI0.out)|refine bS ?_ aQ.out|refine bS ?_ bh.out)|exact HB.out));rintro e ef ⟨rfl,hi,hb,hk⟩;refine⟨_,rfl,?_⟩;replace ab:=A0_ (Kd.Q_mono (Kd.Q_keep (IsS76.apartQ (show IsS76 w0 _ g s0_0 ap from zIs HI0) (zQ_ ab) (by decide)) hk (fun _ h=>h.2)) (fun _ h=>h.1));replace af:=A0_ (rM (Kd.R_keep (IsS76.apart (show IsS76 w0 _ g s0_0 ap from zIs HI0) (zR_ af) (by decide)) hk (fun _ h=>h.2)) (fun _ h=>h.1));replace ag:=A0_ (KeepBut.blk hk (g':=ak) (o := .cells #[.slice none 0 0,.slice none 0 0] 25 (0,0)) (zK_ ag) aA.out (by simp));replace ah:=A0_ (KeepBut.blk hk (g':=an) (o := .cells #[u407000,u407001] 25 (0,0)) (zK_ ah) aw.out (by simp));replace HK:=A0_ (KeepBut.trans (zKp HK) hk (.inl rfl));replace HB:=A0_ (hb);replace HI0:=A0_ (hi);(try clear hb);have gq:=aD.out;have gr:=aq.out;have gs:=aw.out;have gt:=av.out;have ff:=zc0 ah;have fg:=zc1 ah;have fh:=kF ah.out 0;have fi:=kF ah.out 1;have dh:0≤(0:Int):=(by omega);have di:(0:Int)<((aa.length:Int):Int):=zd;have qi101:(0<aa.length)=True:=eq_true (by omega);obtain⟨aU,oo101,aZ,dt,du,gl101,cl101,HG101⟩:=Kd.Q_form ab.out (by omega);(first|cases dt|(injection dt with ea_ en_ ec_;(first|subst ea_|(injection ea_ with ea_;subst ea_));subst ec_;clear en_));have GB101:=A0_ du;have GG101:=A0_ HG101;clear du gl101 HG101;obtain⟨bY,b5⟩:=Kd.Q_cell 0 ab.out (0:Int) dh di;(try rw [show((0:Int)).toNat=0 from rfl] at bY);(try simp only [Nat.reduceMul,Nat.zero_mul,Nat.zero_add,Nat.add_zero,Nat.reduceAdd] at bY);(try rw [show((0:Int)).toNat=0 from rfl] at b5);(try simp only [Nat.reduceMul,Nat.zero_mul,Nat.zero_add,Nat.add_zero,Nat.reduceAdd] at b5);replace dh:=eq_true dh;replace di:=eq_true di;obtain⟨hy106_,hz106_⟩:=Kd.Q_cell 0 ab.out (0:Int) (by omega) (zd);(try simp only [Int.reduceToNat,Int.toNat_zero,Int.toNat_ofNat,Nat.reduceMul,Nat.zero_mul,Nat.zero_add,Nat.add_zero] at hy106_ hz106_);(try rw [show((0:Int)).toNat=0 from rfl] at hy106_);(try rw [show((0:Int)).toNat=0 from rfl] at hz106_);have HP106:=Kd.Q_putg ab.out (0:Int) (by omega) (by have h_:(0:Int)<((aa.length:Int):Int):=zd;first|exact h_|(have e_:=(Kd.Q_reads' ab.out).1;omega)|simpa using h_) ax)|((with_reducible refine gS (t:=3) (p:=114) rfl ?_);refine store_event (t:=3) (p:=114) (v := ?vo_w107) (w1:=(ef.setCell ⟨aU,oo101,none⟩ (.int .i64 ax))) ?hg ?ho ?hn ?hr ?_;(case ho=>rfl);(case hg=>rfl);(case hn=>rfl);(case hr=>first|(go_simp;done)|(go_simp;rfl));intro dj hw;have hg:ef.grownBy dj (some aU):=(by rw [hw];exact HP106.2);have hp_:Kd.Q (Kd.int .i64) 3 dj w.heap.size (fun k_=>nO k_ u407001) (.slice (some ⟨aU,oo101,none⟩) aa.length aZ) ee:=(by rw [hw,eD.out];exact HP106.1);clear HP106;replace af:=A0_ (Kd.R_after (v:=(.slice (some ⟨aU,oo101,none⟩) aa.length aZ)) (v1:=(.slice (some ⟨aU,oo101,none⟩) aa.length aZ)) (ok:=(fun _=>True)) (zmR af (fun _ hk=>⟨trivial,hk⟩)) hg (.inl rfl));replace ag:=A0_ (blk_grown (g:=ak) (o := .cells #[.slice none 0 0,.slice none 0 0] 25 (0,0)) (zK_ ag) hg (Kd.Q_ne ab.out ag.out (by decide)));replace ah:=A0_ (blk_grown (g:=an) (o := .cells #[.slice (some ⟨aU,oo101,none⟩) aa.length aZ,u407001] 25 (0,0)) (zK_ ah) hg (Kd.Q_ne ab.out ah.out (by decide)));replace HI0:=A0_ (IsS76.grown (zIs HI0) hg (IsS76.own_neQ HI0.out ab.out (by decide)));replace HB:=A0_ ((by rw [hw];exact bS (HB.out) (Nat.le_trans HL.out GB101.out):Below w0.heap.size w0 dj));replace HK:=A0_ (KeepBut.trans (zKp HK) (KeepBut.of_grown hg g) (Kd.Q_base2 ab.out));replace ab:=A0_ (hp_);clear hg hw hp_;have fj:=zc0 ah;have fk:=zc1 ah;have fl:=kF ah.out 0;have fm:=kF ah.out 1;have gv:=aA.out;have gw:=ar.out;have fo:=zc0 ag;have fp:=zc1 ag;have fq:=kF ag.out 0;have fs:=kF ag.out 1;obtain⟨cw,cx,eE⟩:=rS af.out;subst eE))
        refine bodyPost_ret (results_cell_row rfl _ _ ak 25 #[.slice (some ⟨aU,oo101,none⟩) aa.length aZ,.slice cw ac.length cx] (0,0) _ rfl (by refine zbp (cs := #[.slice (some ⟨aU,oo101,none⟩) aa.length aZ,.slice none 0 0]) ?_ 1 _ rfl;refine zbp (cs := #[.slice none 0 0,.slice none 0 0]) ?_ 0 _ rfl;exact zK_ ag) Tryz.underlying25 rfl (by kernel_rfl)) rfl ?_
        exact⟨_,_,by first|rfl|(simp [errW_none,errW_some] <;> rfl)|(simp only [← aY];first|rfl|(simp [errW_none,errW_some] <;> rfl))|(simp [*,errW_none,errW_some] <;> rfl),by(with_reducible repeat(first|apply Kd.Q_alloc|apply Kd.Q_drewN|apply Kd.Q_drew));exact Kd.Q_mono (Kd.Q_far (p:=⟨ak,1,none⟩) (Kd.Q_far (p:=⟨ak,0,none⟩) (Kd.Q_types ab.out ag.out (by decide)) (fun _ hk=>hk.2) (.slice (some ⟨aU,oo101,none⟩) aa.length aZ)) (fun _ hk=>hk.2) (.slice cw ac.length cx)) (fun _ hk=>hk.1),by(with_reducible repeat(first|apply rA|apply rN|apply rD));exact rM (rF (p:=⟨ak,1,none⟩) (rF (p:=⟨ak,0,none⟩) (rY af.out ag.out (by decide)) (fun _ hk=>hk.2) (.slice (some ⟨aU,oo101,none⟩) aa.length aZ)) (fun _ hk=>hk.2) (.slice cw ac.length cx)) (fun _ hk=>hk.1.2),zIs HI0,zBw HB,zKp HK⟩
       rw [if_neg bP] at H
       have eB:(aE == 2)=false:=beq_eq_false_iff_ne.mpr bP
       have eC:(aE != 2)=true:=bne_iff_ne.mpr bP
       simp only [Option.some.injEq,Prod.mk.injEq] at H;obtain⟨rfl,rfl,rfl⟩:=H
       go_wp2_with (first|((with_reducible refine gC (f:=22) rfl ?_);refine zJ (some 97) Tryz.func22 #[.pointer (some ⟨g,0,none⟩),.int .i64 50] ?_;(with_reducible refine(s15_.calls a4 g s0_0 ap 50 aE bd w0 _ ?ay ?az dp.out).mono ?_);(case ay=>repeat(first|(with_reducible first|exact HI0.out|apply IsS76.alloc|apply IsS76.drewN|apply IsS76.drew|apply IsS76.set_1|refine IsS76.far ?_ ar.out _|refine IsS76.far ?_ av.out _)|exact HI0.out));(case az=>repeat(first|(with_reducible first|exact HB.out|apply bA|apply bN|apply bD|refine bS ?_ (IsS76.ge HI0.out)|refine bS ?_ aQ.out|refine bS ?_ bh.out)|exact HB.out));rintro e im ⟨rfl,hi,hb,hk⟩;refine⟨_,rfl,?_⟩;replace ab:=A0_ (Kd.Q_mono (Kd.Q_keep (IsS76.apartQ (show IsS76 w0 _ g s0_0 ap from zIs HI0) (zQ_ ab) (by decide)) hk (fun _ h=>h.2)) (fun _ h=>h.1));replace af:=A0_ (rM (Kd.R_keep (IsS76.apart (show IsS76 w0 _ g s0_0 ap from zIs HI0) (zR_ af) (by decide)) hk (fun _ h=>h.2)) (fun _ h=>h.1));replace ag:=A0_ (KeepBut.blk hk (g':=ak) (o := .cells #[.slice none 0 0,.slice none 0 0] 25 (0,0)) (zK_ ag) aA.out (by simp));replace ah:=A0_ (KeepBut.blk hk (g':=an) (o := .cells #[u407000,u407001] 25 (0,0)) (zK_ ah) aw.out (by simp));replace HK:=A0_ (KeepBut.trans (zKp HK) hk (.inl rfl));replace HB:=A0_ (hb);replace HI0:=A0_ (hi);(try clear hb);have gx:=aD.out;have gy:=aq.out;have gz:=aw.out;have gE:=av.out;have ft:=zc0 ah;have fu:=zc1 ah;have fv:=kF ah.out 0;have fw:=kF ah.out 1;obtain⟨bC,bE,eF,_⟩:=Kd.Q_slice ab.out;subst eF;have gF:=aA.out;have gG:=ar.out;have fx:=zc0 ag;have fy:=zc1 ag;have fA:=kF ag.out 0;have fB:=kF ag.out 1;obtain⟨cy,cz,eG⟩:=rS af.out;subst eG))
       refine bodyPost_ret (results_cell_row rfl _ _ ak 25 #[.slice bC aa.length bE,.slice cy ac.length cz] (0,0) _ rfl (by refine zbp (cs := #[.slice bC aa.length bE,.slice none 0 0]) ?_ 1 _ rfl;refine zbp (cs := #[.slice none 0 0,.slice none 0 0]) ?_ 0 _ rfl;exact zK_ ag) Tryz.underlying25 rfl (by kernel_rfl)) rfl ?_
       exact⟨_,_,by first|rfl|(simp [errW_none,errW_some] <;> rfl)|(simp only [← aY];first|rfl|(simp [errW_none,errW_some] <;> rfl))|(simp [*,errW_none,errW_some] <;> rfl),by(with_reducible repeat(first|apply Kd.Q_alloc|apply Kd.Q_drewN|apply Kd.Q_drew));exact Kd.Q_mono (Kd.Q_far (p:=⟨ak,1,none⟩) (Kd.Q_far (p:=⟨ak,0,none⟩) (Kd.Q_types ab.out ag.out (by decide)) (fun _ hk=>hk.2) (.slice bC aa.length bE)) (fun _ hk=>hk.2) (.slice cy ac.length cz)) (fun _ hk=>hk.1),zF af ag (.slice bC aa.length bE) (.slice cy ac.length cz) 0 1,zIs HI0,zBw HB,zKp HK⟩
end Go.Proofs.YtjebcgbmlbemcaaGreatDoor.PFnExecuteContract
