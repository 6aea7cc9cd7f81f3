import Derived.Test.YtmegggomhjgehaaPFnCoverConjx7
set_option linter.unusedSimpArgs false
namespace Go.Proofs.Ytmegggomhjgehaa.PFnCoverConj
open Go.RowKit Go.Proofs.YtmegggomhjgehaaW.PrintWords Go.Proofs.YtmegggomhjgehaaW.PrintLast Go.Proofs.YtmegggomhjgehaaW.PrintMore
set_option maxHeartbeats 8000000
set_option maxRecDepth 100000
attribute [local go_sem] max2_int min2_int max_two min_two max_three min_three max_four min_four
mutual
def s1f_.l0:Nat→Int→List Int→List Int→Int→List Int→Int→Option (List Int×List Int×Int)
  | 0,_,_,_,_,_,_=>none
  | k+1,x5,x6,x7,x8,aa,ab=>if (wrap64 (x8+1))<x5 then (if 0≤x8 then (if x8<(x6.length:Int) then (if 0≤(wrap64 (x8+1)) then (if (wrap64 (x8+1))<(x6.length:Int) then (if 0≤(rd x6 x8) then (if (rd x6 x8)<(x7.length:Int) then (if 0≤(rd x6 (wrap64 (x8+1))) then (if (rd x6 (wrap64 (x8+1)))<(x7.length:Int) then (s1f_.l0 k x5 x6 ((x7.set ((rd x6 x8):Int).toNat (rd x6 (wrap64 (x8+1)))).set ((rd x6 (wrap64 (x8+1))):Int).toNat (rd x6 x8)) (wrap64 (x8+2)) aa ab) else (none)) else (none)) else (none)) else (none)) else (none)) else (none)) else (none)) else (none)) else ((s1g_.f k aa ab x5).bind fun ac=>(s1f_.l1 k x5 0 aa ac.2 ac.1 x7))
def s1f_.l1:Nat→Int→Int→List Int→Int→List Int→List Int→Option (List Int×List Int×Int)
  | 0,_,_,_,_,_,_=>none
  | k+1,x5,af,ac,ae,aa,ab=>if af<x5 then ((sx_.f k aa ab).bind fun ag=>(s1f_.j2 k x5 af (!ag) ac ae aa ab)) else (s1f_.j2 k x5 af false ac ae aa ab)
def s1f_.j2:Nat→Int→Int→Bool→List Int→Int→List Int→List Int→Option (List Int×List Int×Int)
  | 0,_,_,_,_,_,_,_=>none
  | k+1,x5,ah,ai,ae,af,aa,ab=>if ai=true then ((s14_.f k aa ab).bind fun ag=>(s1f_.l2 k x5 ah ag 0 ae af aa ab)) else ((s1a_.f k ae af 50).bind fun ac=>(if ac.1=0 then (if 0<(ab.length:Int) then (some (aa,(ab.set (0:Int).toNat 0),ac.2)) else (none)) else (if ac.1=1 then (if 1≤(aa.length:Int) then (some ((aa.drop (1:Int).toNat),ab,ac.2)) else (none)) else (if ac.1=2 then (if 0<(aa.length:Int) then (some ((aa.set (0:Int).toNat x5),ab,ac.2)) else (none)) else (some (aa,ab,ac.2))))))
def s1f_.l2:Nat→Int→Int→List Int→Int→List Int→Int→List Int→List Int→Option (List Int×List Int×Int)
  | 0,_,_,_,_,_,_,_,_=>none
  | k+1,x5,ah,ag,ab,ae,af,aa,ac=>if 0≤ab then (if ab<(ag.length:Int) then (if (rd ag ab)=0 then (s1f_.l2 k x5 ah ag (wrap64 (ab+1)) ae af aa ac) else (if 0<(aa.length:Int) then (if ab<(aa.length:Int) then (s1f_.l1 k x5 (wrap64 (ah+1)) ae af ((aa.set (0:Int).toNat (rd aa ab)).set (ab:Int).toNat (rd aa 0)) ac) else (none)) else (none))) else (none)) else (none)
end
def s1f_.f (k:Nat) (s0_0:List Int) (s0_1:Int) (a1:Int):Option (List Int×List Int×Int):=(s1a_.f k s0_0 s0_1 a1).bind fun aa=>((s1g_.f k s0_0 aa.2 (wrap64 (2*(wrap64 (1+aa.1))))).bind fun ab=>(if 0≤(wrap64 (2*(wrap64 (1+aa.1)))) then (if (wrap64 (2*(wrap64 (1+aa.1))):Int).toNat≤35184372088832 then (s1f_.l0 k (wrap64 (2*(wrap64 (1+aa.1)))) ab.1 (List.replicate (wrap64 (2*(wrap64 (1+aa.1))):Int).toNat 0) 0 s0_0 ab.2) else (none)) else (none)))
def s1f_.T7:Bool×List (List Nat×List Nat):=(true,[([],[]),([],[]),([],[]),([1,2],[1,2]),([3],[3]),([],[]),([],[]),([6],[6]),([5,7],[5,7]),([8],[8]),([0,4,0,1,2,3,4,5,6,7,8,9],[0,4]),([10,9,0,1,2,3,4,5,6,7,8,9],[9,10])])
def s1f_.B7:List Nat := [0,0,0,6,14,0,0,64,224,480,1023,2047]
theorem s1f_.tab7:rtab .any (opsOf Try.f75 7)=s1f_.T7:=by kernel_rfl
theorem s1f_.bits7:waitsOk s1f_.T7.2 s1f_.B7=true:=by kernel_rfl
def s1f_.T8:Bool×List (List Nat×List Nat):=(true,[([],[]),([],[]),([],[]),([2],[2]),([1,3],[1,3]),([4],[4]),([],[]),([],[]),([6,7],[6,7]),([8],[8]),([0,5,0,1,2,3,4,5,6,7,8,9],[0,5]),([10,9,0,1,2,3,4,5,6,7,8,9],[9,10])])
def s1f_.B8:List Nat := [0,0,0,4,14,30,0,0,192,448,1023,2047]
theorem s1f_.tab8:rtab .any (opsOf Try.f75 8)=s1f_.T8:=by kernel_rfl
theorem s1f_.bits8:waitsOk s1f_.T8.2 s1f_.B8=true:=by kernel_rfl
def s1f_.T18:Bool×List (List Nat×List Nat):=(true,[([],[]),([0],[0]),([],[]),([2],[2]),([],[]),([3,4],[3,4]),([5],[5]),([1,0,1,2,3,4,5,6],[1]),([7,6,0,1,2,3,4,5,6],[6,7])])
def s1f_.B18:List Nat := [0,1,0,4,0,28,60,127,255]
theorem s1f_.tab18:rtab .any (opsOf Try.f75 18)=s1f_.T18:=by kernel_rfl
theorem s1f_.bits18:waitsOk s1f_.T18.2 s1f_.B18=true:=by kernel_rfl
theorem s1f_.calls (k:Nat) (g:Nat) (s0_0:List Int) (s0_1:Int) (a1:Int) (r1:List Int) (r2:List Int) (r3:Int) (w0 w:World) (hI:IsS82 w0 w g s0_0 s0_1) (hB:Below w0.heap.size w0 w) (h:s1f_.f k s0_0 s0_1 a1=some (r1,r2,r3)) :
    Calls Try.prog 75 #[.pointer (some ⟨g,0,none⟩),.int .i64 a1] w fun e w' => ∃ v0_ v1_:Value,e = .returned (.agg #[v0_,v1_])∧Kd.Q (Kd.int .i64) 3 w' w.heap.size (fun k_=>some k_≠(v1_:Value).ownBlock) v0_ r1∧Kd.R (Kd.int .i64) 3 w' w.heap.size (fun k_=>some k_≠(v0_:Value).ownBlock) v1_ r2∧IsS82 w0 w' g s0_0 r3∧Below w0.heap.size w0 w'∧KeepBut w w' g none:=by
 have g4:=Try.underlying25;have HI0:=A0_ hI
 have HK:=A0_ (KeepBut.refl w g none)
 have HL:=A0_ hB.size;clear hI;have HW0:=A0_ hB.size;have HB:=A0_ hB;clear hB
 have H:((s1a_.f k s0_0 s0_1 a1).bind fun a7=>((s1g_.f k s0_0 a7.2 (wrap64 (2*(wrap64 (1+a7.1))))).bind fun da=>(if 0≤(wrap64 (2*(wrap64 (1+a7.1)))) then (if (wrap64 (2*(wrap64 (1+a7.1))):Int).toNat≤35184372088832 then (s1f_.l0 k (wrap64 (2*(wrap64 (1+a7.1)))) da.1 (List.replicate (wrap64 (2*(wrap64 (1+a7.1))):Int).toNat 0) 0 s0_0 da.2) else (none)) else (none))))=some (r1,r2,r3):=h
 clear h;obtain⟨⟨cu,dn⟩,A3,H⟩:=zbind H;dsimp only at H;obtain⟨⟨ah,aU⟩,A4,H⟩:=zbind H;dsimp only at H
 obtain⟨aw,aX⟩ : ∃ j_:Int,(wrap64 (2*(wrap64 (1+cu))))=j_:=⟨_,rfl⟩
 replace H:(if 0≤(aw) then (if (aw:Int).toNat≤35184372088832 then (s1f_.l0 k aw ah (List.replicate (aw:Int).toNat 0) 0 s0_0 aU) else (none)) else (none))=some (r1,r2,r3):=by first|(rw [aX] at H;exact H)|(simp only [aX] at H ⊢;exact H)
 (try rw [aX] at A3)
 (try rw [aX] at A4)
 have hji5w:(IntKind.i64.wrap (2*(wrap64 (1+cu))))=aw:=(i64_w _).trans aX
 have c6:=zpc H;replace H:=zph H
 have bY:=eq_true c6;have b2:=dT c6;clear c6
 have c7:=zpc H;replace H:=zph H
 have b3:=eq_true c7;have b4:=dT c7;clear c7
 obtain⟨dp,b5⟩ : ∃ y_:List Int,y_=(List.replicate (aw:Int).toNat 0):=⟨_,rfl⟩
 replace H:(s1f_.l0 k aw ah dp 0 s0_0 aU)=some (r1,r2,r3):=zH b5 H
 have db:=A0_ b5;clear b5;have H':=A0_ H;clear H
 go_enter Try.func75,Try.ntmps75
 go_wp2_with (first|((with_reducible refine gD (N:=4) rfl ?_);refine zX (N:=4) (cs := #[.slice none 0 0,.slice none 0 0]) (t:=25) ?_;intro aj hg w8 hbox hb;replace HB:=A0_ (bT (zBw HB) hb);have af:=A0_ (hbox);have b6:=A0_ ((by rw [hg];exact(keep_size (w:=w) (g:=g) (row:=none) (zKp HK)):w.heap.size≤aj));have aN:=A0_ ((Nat.le_trans HW0.out (by rw [hg];exact(keep_size (w:=w) (g:=g) (row:=none) (zKp HK)):w.heap.size≤aj):w0.heap.size≤aj));replace HK:=A0_ (KeepBut.trans (zKp HK) (KeepBut.of_below hb g none) (.inl rfl));have aq:=A0_ ((by rw [hg];exact Nat.ne_of_lt (IsS82.lt (show IsS82 w0 _ g s0_0 s0_1 from zIs HI0)):g≠aj));have az:=A0_ ((by rw [hg];exact Nat.ne_of_gt (IsS82.lt (show IsS82 w0 _ g s0_0 s0_1 from zIs HI0)):aj≠g));replace HI0:=A0_ (IsS82.below (zIs HI0) hb);clear hb hbox hg)|((with_reducible refine gC (f:=74) rfl ?_);refine zJ (some 16) Try.func74 #[.pointer (some ⟨g,0,none⟩),.int .i64 a1] ?_;(with_reducible refine(s1a_.calls k g s0_0 s0_1 a1 cu dn w0 _ ?ax ?ay A3.out).mono ?_);(case ax=>repeat(first|(with_reducible first|exact HI0.out|apply IsS82.alloc|apply IsS82.drewN|apply IsS82.drew|apply IsS82.set_1|refine IsS82.far ?_ aq.out _)|exact HI0.out));(case ay=>repeat(first|(with_reducible first|exact HB.out|apply bA|apply bN|apply bD|refine bS ?_ (IsS82.ge HI0.out)|refine bS ?_ aN.out)|exact HB.out));rintro e w9 ⟨rfl,hi,hb,hk⟩;refine⟨_,rfl,?_⟩;replace af:=A0_ (KeepBut.blk hk (g':=aj) (o := .cells #[.slice none 0 0,.slice none 0 0] 25 (0,0)) (zK_ af) az.out (by simp));replace HK:=A0_ (KeepBut.trans (zKp HK) hk (.inl rfl));replace HB:=A0_ (hb);replace HI0:=A0_ (hi);(try clear hb))|((with_reducible refine gC (f:=87) rfl ?_);refine goesL_ (some 21) rfl rfl Try.func87 (by kernel_rfl) rfl #[.pointer (some ⟨g,0,none⟩),.int .i64 aw] rfl (by(try simp only [List.map_toArray,List.map_cons,List.map_nil]);first|done|(simp only [aX];rfl)|rfl|(simp only [List.length_drop,List.length_take];rfl)) ?_;(with_reducible refine(s1g_.calls k g s0_0 dn aw ah aU w0 _ ?ax ?ay A4.out).mono ?_);(case ax=>repeat(first|(with_reducible first|exact HI0.out|apply IsS82.alloc|apply IsS82.drewN|apply IsS82.drew|apply IsS82.set_1|refine IsS82.far ?_ aq.out _)|exact HI0.out));(case ay=>repeat(first|(with_reducible first|exact HB.out|apply bA|apply bN|apply bD|refine bS ?_ (IsS82.ge HI0.out)|refine bS ?_ aN.out)|exact HB.out));rintro e w10 ⟨dq,rfl,a6,hi,hb,hk⟩;refine⟨_,rfl,?_⟩;replace af:=A0_ (KeepBut.blk hk (g':=aj) (o := .cells #[.slice none 0 0,.slice none 0 0] 25 (0,0)) (zK_ af) az.out (by simp));have bv:=A0_ (rL a6 (keep_size (w:=w) (g:=g) (row:=none) (zKp HK)));replace HK:=A0_ (KeepBut.trans (zKp HK) hk (.inl rfl));replace HB:=A0_ (hb);replace HI0:=A0_ (hi);(try clear hb);(try clear a6))|((with_reducible refine gD (N:=23) rfl ?_);refine Kd.R_make (Kd.int .i64) _ 3 rfl (N:=23) rfl 23 _ _ rfl aw rfl rfl Try.underlying23 (.int .i64 0) 8 info3 rfl (by decide) (by omega) 0 (ok:=fun _=>True) (okp:=fun _=>True) rfl (fun _ hk=>hk) trivial (zd) (Nat.le_trans (Nat.mul_le_mul_right _ (zd:aw.toNat≤35184372088832)) (by omega)) (Below.refl _ _) (Nat.le_refl _) ?_;intro dr w11 bl hb hg_ hnew_;clear hg_ hnew_;(first|rw [← db.out] at bl|(simp only [Int.reduceToNat] at bl;rw [← db.out] at bl));have d0:=A0_ (rL (Kd.R_new' bl (rX (zR_ bv))) (keep_size (w:=w) (g:=g) (row:=none) (zKp HK)));replace bv:=A0_ (Kd.R_elder' (zR_ bv) (Kd.R_base bl) hb);replace af:=zK af hb;replace HK:=A0_ (KeepBut.trans (zKp HK) (KeepBut.of_below hb g none) (.inl rfl));replace HB:=A0_ (bT (zBw HB) hb);replace HI0:=A0_ (IsS82.below (zIs HI0) hb);clear hb bl))
 go_loopg [8] k (fun kq v8 w' => ∃ (aI:List Int) (ak:Int),v8 = .int .i64 ak∧Aside0 (s1f_.l0 kq aw ah aI ak s0_0 aU=some (r1,r2,r3))∧Aside0 (kq≤k)∧Aside0 (Kd.R (Kd.int .i64) 3 w' w.heap.size (fun k_=>some k_≠(dr:Value).ownBlock) dq ah)∧Aside0 (Kd.R (Kd.int .i64) 3 w' w.heap.size (fun k_=>some k_≠(dq:Value).ownBlock) dr aI)∧Aside0 (w'.heap[aj]? = some (.cells #[(.slice none 0 0),(.slice none 0 0)] 25 (0,0)))∧Aside0 (IsS82 w0 w' g s0_0 aU)∧Aside0 (KeepBut w w' g none)∧Aside0 (Below w0.heap.size w0 w'))
 case atStart=>exact⟨(dp),(0),zt,H',⟨Nat.le_refl _⟩,⟨zmR bv (fun _ hk=>hk.2)⟩,⟨zmR d0 (fun _ hk=>hk.2)⟩,⟨zK_ af⟩,⟨zIs HI0⟩,⟨zKp HK⟩,⟨zBw HB⟩⟩
 case round =>
  clear H';(try clear c6);(try clear bY);(try clear b2);(try clear c7);(try clear b3);(try clear b4);obtain⟨aI,ak,rfl,HA,bu,aA,ar,af,HI0,HK,HB⟩:=hrel
  cases gk with
  | zero=>exact absurd HA.out (by simp [s1f_.l0])
  | succ k1 =>
   have H:=HA.out;clear HA;simp only [s1f_.l0] at H
   by_cases be:(wrap64 (ak+1))<aw
   ·rw [if_pos be] at H
    have bf:=dT be;clear be
    have es:=zpc H;replace H:=zph H
    have gc:=dT es;clear es
    have et:=zpc H;replace H:=zph H
    have gd:=dT et;clear et
    obtain⟨al,bw⟩ : ∃ j_:Int,(wrap64 (ak+1))=j_:=⟨_,rfl⟩
    replace H:(if 0≤(al) then (if (al)<(ah.length:Int) then (if 0≤(rd ah ak) then (if (rd ah ak)<(aI.length:Int) then (if 0≤(rd ah (al)) then (if (rd ah (al))<(aI.length:Int) then (s1f_.l0 k1 aw ah ((aI.set ((rd ah ak):Int).toNat (rd ah (al))).set ((rd ah (al)):Int).toNat (rd ah ak)) (wrap64 (ak+2)) s0_0 aU) else (none)) else (none)) else (none)) else (none)) else (none)) else (none))=some (r1,r2,r3):=by first|(rw [bw] at H;exact H)|(simp only [bw] at H ⊢;exact H)
    (try rw [bw] at bf)
    have hji16w:(IntKind.i64.wrap (ak+1))=al:=(i64_w _).trans bw
    have eu:=zpc H;replace H:=zph H
    have gf:=dT eu;clear eu
    have ev:=zpc H;replace H:=zph H
    have gg:=dT ev;clear ev
    have ew:=zpc H;replace H:=zph H
    have gh:=dT ew;clear ew
    have ex:=zpc H;replace H:=zph H
    have gi:=dT ex;clear ex
    obtain⟨cv,b7⟩ : ∃ y_:List Int,y_=(aI.set ((rd ah ak):Int).toNat (rd ah (al))):=⟨_,rfl⟩
    replace H:(if 0≤(rd ah (al)) then (if (rd ah (al))<(aI.length:Int) then (s1f_.l0 k1 aw ah (cv.set ((rd ah (al)):Int).toNat (rd ah ak)) (wrap64 (ak+2)) s0_0 aU) else (none)) else (none))=some (r1,r2,r3):=zH b7 H
    have d3:=A0_ b7;clear b7
    have ey:=zpc H;replace H:=zph H
    have gj:=dT ey;clear ey
    have ez:=zpc H;replace H:=zph H
    have gl:=dT ez;clear ez
    obtain⟨dt,b8⟩ : ∃ y_:List Int,y_=(cv.set ((rd ah (al)):Int).toNat (rd ah ak)):=⟨_,rfl⟩
    replace H:(s1f_.l0 k1 aw ah dt (wrap64 (ak+2)) s0_0 aU)=some (r1,r2,r3):=zH b8 H
    have d4:=A0_ b8;clear b8;have H':=A0_ H;clear H
    try go_wp2
    replace aA:=A0_ (rD aA.out)
    replace ar:=A0_ (rD ar.out)
    replace af:=A0_ (kD af.out)
    replace HI0:=A0_ (IsS82.drew HI0.out)
    replace HK:=A0_ (keep_drew HK.out)
    replace HB:=A0_ (bD HB.out)
    obtain⟨g5,du,dv⟩:=rS aA.out
    (first|subst dv|(injection dv with f1_ f2_ f3_;have f4_:=f1_.symm;have f5_:=f3_.symm;clear f1_ f2_ f3_;subst f4_;subst f5_))
    have cw:0≤(ak:Int):=zd
    have cx:ak<(ah.length:Int):=zd
    obtain⟨aW,eF,bO⟩:=tI (rR aA.out).2.2 ak cw cx
    cases eF
    replace cw:=eq_true cw;replace cx:=eq_true cx
    have cy:0≤((al):Int):=zd
    have cz:(al)<(ah.length:Int):=zd
    obtain⟨d5,eG,bP⟩:=tI (rR aA.out).2.2 (al) cy cz
    obtain rfl:aW=d5:=(by injection eG)
    replace cy:=eq_true cy;replace cz:=eq_true cz
    have dw:0≤((rd ah ak):Int):=zd
    have dx:((rd ah ak):Int)<((aI.length:Int):Int):=zd
    obtain⟨aJ,dy,dz,dA,gl21,cl21,HG21⟩:=Kd.R_form ar.out (by omega)
    (first|cases dz|(injection dz with ea_ en_ ec_;(first|subst ea_|(injection ea_ with ea_;subst ea_));subst ec_;clear en_))
    have GB21:=A0_ dA;have GG21:=A0_ HG21;clear dA gl21 HG21
    obtain⟨dB,dC⟩:=Kd.R_celln 0 ar.out ((rd ah ak):Int) dw dx
    replace dw:=eq_true dw;replace dx:=eq_true dx
    have HN0_go21:=A0_ (show g≠aJ from by have h_:=IsS82.own_ne HI0.out ar.out (by decide);intro e_;exact h_ (by rw [e_];rfl))
    have HP27:=Kd.R_putn ar.out ((rd ah ak):Int) (rd ah (al))
    rw [← d3.out] at HP27
    have HQ27:=A0_ HP27;clear HP27
    refine start_ (n:=12) (S:=fun w'=>w'.cell? (aW.add (ak).toNat)=some (.int .i64 (rd ah ak))∧w'.cell? (aW.add ((al)).toNat)=some (.int .i64 (rd ah (al)))) (ds := [11]) (bs 12 0) (by kernel_rfl) rfl rfl ⟨bO,bP⟩ (fun hHeld => ?_);refine with_tabW s1f_.tab7 s1f_.bits7 (fun HT_ HW_ => ?_)
    generalize wr.drew=w25 at aA ar af HI0 HK HB GG21 HQ27 dC dB bO bP hHeld ⊢
    refine zP 0 (some 30) (bs 12 1) ?_
    refine zP 1 (some 31) (bs 12 3) ?_
    refine zP 2 (some 32) (bs 12 7) ?_
    refine zP 3 (some 33) (bs 12 15) ?_
    refine zP 5 (some 35) (bs 12 47) ?_
    refine zP 6 (some 36) (bs 12 111) ?_
    refine zP 7 (some 37) (bs 12 239) ?_
    refine zP 8 (some 38) (bs 12 495) ?_
    refine zT 4 (some 34) (bs 12 511) hHeld ?_
    refine zT 9 (some 39) (bs 12 1023) hHeld ?_
    refine zP 10 (some 40) (bs 12 2047) ?_
    refine last_ (i:=11) (N:=none) (bs 12 4095) rfl rfl (one_of HT_.out (by kernel_rfl)) (by decide) (fun K hK => ?_)
    refine skip_ (w1 := ?_) (by rfl) rfl ?_ ?_
    rotate_left
    ·go_simp
     rfl
    refine hK.out _ _ ?_
    clear hK K
    refine done_ (done_of HT_.out (by kernel_rfl)) ?_
    try go_wp2
    have n0_:Aside0 (Kd.R (Kd.int .i64) 3 (w25.setCell ⟨aJ,((rd ah ak):Int).toNat,none⟩ (.int .i64 (rd ah (al)))) w.heap.size (fun k_=>some k_≠(.slice (some ⟨aJ,0,none⟩) aI.length dy:Value).ownBlock) (.slice (some aW) ah.length du) ah):=⟨by(with_reducible repeat(first|apply rA|apply rN|apply rD));exact rM (rF (p:=⟨aJ,((rd ah ak):Int).toNat,none⟩) (rM aA.out (fun k_ hk=>(⟨hk,fun e_=>hk (by rw [e_];rfl)⟩:_∧k_≠aJ))) (fun _ hk=>hk.2) (.int .i64 (rd ah (al)))) (fun _ hk=>hk.1)⟩
    have n1_:Aside0 (Kd.R (Kd.int .i64) 3 (w25.setCell ⟨aJ,((rd ah ak):Int).toNat,none⟩ (.int .i64 (rd ah (al)))) w.heap.size (fun k_=>some k_≠(.slice (some aW) ah.length du:Value).ownBlock) (.slice (some ⟨aJ,0,none⟩) aI.length dy) cv):=⟨zR_ HQ27⟩
    have n2_:Aside0 ((w25.setCell ⟨aJ,((rd ah ak):Int).toNat,none⟩ (.int .i64 (rd ah (al)))).heap[aj]? = some (.cells #[.slice none 0 0,.slice none 0 0] 25 (0,0))):=⟨by refine zbf ?_ _ (hp:=by have h_:=Kd.R_ne ar.out af.out (by decide);intro e_;exact h_ (by rw [e_];rfl));exact zK_ af⟩
    have n3_:Aside0 (IsS82 w0 (w25.setCell ⟨aJ,((rd ah ak):Int).toNat,none⟩ (.int .i64 (rd ah (al)))) g s0_0 aU):=⟨by repeat(first|(with_reducible first|exact HI0.out|apply IsS82.alloc|apply IsS82.drewN|apply IsS82.drew|apply IsS82.set_1|refine IsS82.far ?_ HN0_go21.out _|refine IsS82.far ?_ aq.out _)|exact HI0.out)⟩
    have n4_:Aside0 (KeepBut w (w25.setCell ⟨aJ,((rd ah ak):Int).toNat,none⟩ (.int .i64 (rd ah (al)))) g none):=⟨by repeat(first|(with_reducible first|exact HK.out|apply KeepBut.set_|apply keep_drewN|apply keep_drew|apply keep_alloc|refine keep_far ?_ GB21.out _|refine keep_far ?_ b6.out _)|exact HK.out)⟩
    have n5_:Aside0 (Below w0.heap.size w0 (w25.setCell ⟨aJ,((rd ah ak):Int).toNat,none⟩ (.int .i64 (rd ah (al))))):=⟨by repeat(first|(with_reducible first|exact HB.out|apply bA|apply bN|apply bD|refine bS ?_ (Nat.le_trans HL.out GB21.out)|refine bS ?_ (IsS82.ge HI0.out)|refine bS ?_ aN.out)|exact HB.out)⟩
    (try clear aA);(try clear ar);(try clear af);(try clear HI0);(try clear HK);(try clear HB)
    generalize (w25.setCell ⟨aJ,((rd ah ak):Int).toNat,none⟩ (.int .i64 (rd ah (al))))=w28 at n0_ n1_ n2_ n3_ n4_ n5_ ⊢
    have aA:=n0_;have ar:=n1_;have af:=n2_;have HI0:=n3_;have HK:=n4_;have HB:=n5_;clear n0_ n1_ n2_ n3_ n4_ n5_
    replace aA:=A0_ (rD aA.out)
    replace ar:=A0_ (rD ar.out)
    replace af:=A0_ (kD af.out)
    replace HI0:=A0_ (IsS82.drew HI0.out)
    replace HK:=A0_ (keep_drew HK.out)
    replace HB:=A0_ (bD HB.out)
    have cC:0≤((al):Int):=zd
    have cE:(al)<(ah.length:Int):=zd
    obtain⟨d6,eH,bQ⟩:=tI (rR aA.out).2.2 (al) cC cE
    obtain rfl:aW=d6:=(by injection eH)
    replace cC:=eq_true cC;replace cE:=eq_true cE
    have cF:0≤(ak:Int):=zd
    have cG:ak<(ah.length:Int):=zd
    obtain⟨d7,eI,bR⟩:=tI (rR aA.out).2.2 ak cF cG
    obtain rfl:aW=d7:=(by injection eI)
    replace cF:=eq_true cF;replace cG:=eq_true cG
    have dD:0≤((rd ah (al)):Int):=zd
    have dE:((rd ah (al)):Int)<((aI.length:Int):Int):=zd
    obtain⟨dG,dH⟩:=Kd.R_celln 0 ar.out ((rd ah (al)):Int) dD dE
    replace dD:=eq_true dD;replace dE:=eq_true dE
    have HN0_go21:=A0_ (show g≠aJ from by have h_:=IsS82.own_ne HI0.out ar.out (by decide);intro e_;exact h_ (by rw [e_];rfl))
    have HP30:=Kd.R_putn ar.out ((rd ah (al)):Int) (rd ah ak)
    rw [← d4.out] at HP30
    have HQ30:=A0_ HP30;clear HP30
    refine start_ (n:=12) (S:=fun w'=>w'.cell? (aW.add ((al)).toNat)=some (.int .i64 (rd ah (al)))∧w'.cell? (aW.add (ak).toNat)=some (.int .i64 (rd ah ak))) (ds := [11]) (bs 12 0) (by kernel_rfl) rfl rfl ⟨bQ,bR⟩ (fun hHeld => ?_);refine with_tabW s1f_.tab8 s1f_.bits8 (fun HT_ HW_ => ?_)
    generalize w28.drew=w29 at aA ar af HI0 HK HB HQ27 HQ30 dH dG bQ bR hHeld ⊢
    refine zP 0 (some 41) (bs 12 1) ?_
    refine zP 1 (some 42) (bs 12 3) ?_
    refine zP 2 (some 43) (bs 12 7) ?_
    refine zP 3 (some 44) (bs 12 15) ?_
    refine zP 4 (some 45) (bs 12 31) ?_
    refine zP 6 (some 47) (bs 12 95) ?_
    refine zP 7 (some 48) (bs 12 223) ?_
    refine zP 8 (some 49) (bs 12 479) ?_
    refine zT 5 (some 46) (bs 12 511) hHeld ?_
    refine zT 9 (some 50) (bs 12 1023) hHeld ?_
    refine zP 10 (some 51) (bs 12 2047) ?_
    refine last_ (i:=11) (N:=none) (bs 12 4095) rfl rfl (one_of HT_.out (by kernel_rfl)) (by decide) (fun K hK => ?_)
    refine skip_ (w1 := ?_) (by rfl) rfl ?_ ?_
    rotate_left
    ·go_simp
     rfl
    refine hK.out _ _ ?_
    clear hK K
    refine done_ (done_of HT_.out (by kernel_rfl)) ?_
    try go_wp2
    go_roundg k1
    case measure=>have:=bu.out;omega
    case rel=>exact⟨(dt),(wrap64 (ak+2)),zt,H',⟨by have:=bu.out;omega⟩,⟨by(with_reducible repeat(first|apply rA|apply rN|apply rD));exact rM (rF (p:=⟨aJ,((rd ah (al)):Int).toNat,none⟩) (rM aA.out (fun k_ hk=>(⟨hk,fun e_=>hk (by rw [e_];rfl)⟩:_∧k_≠aJ))) (fun _ hk=>hk.2) (.int .i64 (rd ah ak))) (fun _ hk=>hk.1)⟩,⟨zR_ HQ30⟩,⟨by refine zbf ?_ _ (hp:=by have h_:=Kd.R_ne ar.out af.out (by decide);intro e_;exact h_ (by rw [e_];rfl));exact zK_ af⟩,⟨by repeat(first|(with_reducible first|exact HI0.out|apply IsS82.alloc|apply IsS82.drewN|apply IsS82.drew|apply IsS82.set_1|refine IsS82.far ?_ HN0_go21.out _|refine IsS82.far ?_ aq.out _)|exact HI0.out)⟩,⟨by repeat(first|(with_reducible first|exact HK.out|apply KeepBut.set_|apply keep_drewN|apply keep_drew|apply keep_alloc|refine keep_far ?_ GB21.out _|refine keep_far ?_ b6.out _)|exact HK.out)⟩,⟨by repeat(first|(with_reducible first|exact HB.out|apply bA|apply bN|apply bD|refine bS ?_ (Nat.le_trans HL.out GB21.out)|refine bS ?_ (IsS82.ge HI0.out)|refine bS ?_ aN.out)|exact HB.out)⟩⟩
   rw [if_neg be] at H;have bf:=dF be;clear be;obtain⟨⟨bm,ao⟩,fQ,H⟩:=zbind H;dsimp only at H;have H':=A0_ H;clear H
   go_wp2_with (first|((with_reducible refine gC (f:=87) rfl ?_);refine goesL_ (some 54) rfl rfl Try.func87 (by kernel_rfl) rfl #[.pointer (some ⟨g,0,none⟩),.int .i64 aw] rfl (by(try simp only [List.map_toArray,List.map_cons,List.map_nil]);first|done|(simp only [aX];rfl)|rfl|(simp only [List.length_drop,List.length_take];rfl)) ?_;(with_reducible refine(s1g_.calls k1 g s0_0 aU aw bm ao w0 _ ?ax ?ay fQ.out).mono ?_);(case ax=>repeat(first|(with_reducible first|exact HI0.out|apply IsS82.alloc|apply IsS82.drewN|apply IsS82.drew|apply IsS82.set_1|refine IsS82.far ?_ aq.out _)|exact HI0.out));(case ay=>repeat(first|(with_reducible first|exact HB.out|apply bA|apply bN|apply bD|refine bS ?_ (IsS82.ge HI0.out)|refine bS ?_ aN.out)|exact HB.out));rintro e w32 ⟨g6,rfl,a6,hi,hb,hk⟩;refine⟨_,rfl,?_⟩;replace af:=A0_ (KeepBut.blk hk (g':=aj) (o := .cells #[.slice none 0 0,.slice none 0 0] 25 (0,0)) (zK_ af) az.out (by simp));have bx:=A0_ (rL (Kd.R_new' (Kd.R_new' a6 (rX (zR_ aA))) (rX (zR_ ar))) (keep_size (w:=w) (g:=g) (row:=none) (zKp HK)));replace aA:=A0_ (rM (rT (Kd.R_oldK (IsS82.apart (show IsS82 w0 _ g s0_0 aU from zIs HI0) (zR_ aA) (by decide)) hk) (Kd.R_base a6)) (fun _ h_=>h_.1));replace ar:=A0_ (rM (rT (Kd.R_oldK (IsS82.apart (show IsS82 w0 _ g s0_0 aU from zIs HI0) (zR_ ar) (by decide)) hk) (Kd.R_base a6)) (fun _ h_=>h_.1));replace HK:=A0_ (KeepBut.trans (zKp HK) hk (.inl rfl));replace HB:=A0_ (hb);replace HI0:=A0_ (hi);(try clear hb);(try clear a6);obtain⟨cH,cI,eJ⟩:=rS ar.out;subst eJ;obtain⟨b9,ca,eK⟩:=rS bx.out;subst eK)|((with_reducible refine gD (N:=9) rfl ?_);refine zX (N:=9) (cs := #[.slice none 0 0,.slice none 0 0]) (t:=25) ?_;intro am hg w35 hbox hb;replace aA:=zR aA hb;replace ar:=zR ar hb;replace bx:=zR bx hb;replace HB:=A0_ (bT (zBw HB) hb);have ag:=A0_ (hbox);have d8:=A0_ ((by rw [hg];exact(keep_size (w:=w) (g:=g) (row:=none) (zKp HK)):w.heap.size≤am));have bg:=A0_ ((Nat.le_trans HW0.out (by rw [hg];exact(keep_size (w:=w) (g:=g) (row:=none) (zKp HK)):w.heap.size≤am):w0.heap.size≤am));replace HK:=A0_ (KeepBut.trans (zKp HK) (KeepBut.of_below hb g none) (.inl rfl));have ap:=zL hg af;have aC:=zM hg af;replace af:=zK af hb;have au:=A0_ ((by rw [hg];exact Nat.ne_of_lt (IsS82.lt (show IsS82 w0 _ g s0_0 ao from zIs HI0)):g≠am));have av:=A0_ ((by rw [hg];exact Nat.ne_of_gt (IsS82.lt (show IsS82 w0 _ g s0_0 ao from zIs HI0)):am≠g));replace HI0:=A0_ (IsS82.below (zIs HI0) hb);clear hb hbox hg;have gm:=aC.out;have gn:=ap.out;have gp:=av.out;have gq:=au.out;have bn:=zc0 ag;have bo:=zc1 ag;have bp:=kF ag.out 0;have bq:=kF ag.out 1))
   go_loopg [10] k1 (fun kq v10 w' => ∃ (aQ:Int) (aa:List Int) (ac:List Int) (u319000:Value) (u319001:Value),v10 = .int .i64 aQ∧Aside0 (s1f_.l1 kq aw aQ s0_0 ao aa ac=some (r1,r2,r3))∧Aside0 (kq≤k1)∧Aside0 (Kd.Q (Kd.int .i64) 3 w' w.heap.size (fun k_=>some k_≠(u319001:Value).ownBlock) u319000 aa)∧Aside0 (Kd.R (Kd.int .i64) 3 w' w.heap.size (fun k_=>some k_≠(u319000:Value).ownBlock) u319001 ac)∧Aside0 (w'.heap[aj]? = some (.cells #[(.slice none 0 0),(.slice none 0 0)] 25 (0,0)))∧Aside0 (w'.heap[am]? = some (.cells #[u319000,u319001] 25 (0,0)))∧Aside0 (IsS82 w0 w' g s0_0 ao)∧Aside0 (KeepBut w w' g none)∧Aside0 (Below w0.heap.size w0 w'))
   case atStart=>exact⟨(0),(bm),(aI),(.slice b9 bm.length ca),(.slice cH aI.length cI),zt,H',⟨Nat.le_refl _⟩,⟨Kd.Q_of_R (by(with_reducible repeat(first|apply rA|apply rN|apply rD));exact rM (rF (p:=⟨am,1,none⟩) (rF (p:=⟨am,0,none⟩) (rY bx.out ag.out (by decide)) (fun _ hk=>hk.2) (.slice b9 bm.length ca)) (fun _ hk=>hk.2) (.slice cH aI.length cI)) (fun _ hk=>hk.1.2))⟩,⟨by(with_reducible repeat(first|apply rA|apply rN|apply rD));exact rM (rF (p:=⟨am,1,none⟩) (rF (p:=⟨am,0,none⟩) (rY ar.out ag.out (by decide)) (fun _ hk=>hk.2) (.slice b9 bm.length ca)) (fun _ hk=>hk.2) (.slice cH aI.length cI)) (fun _ hk=>hk.1.2)⟩,⟨by refine zbf ?_ _ (hp:=by exact ap.out);refine zbf ?_ _ (hp:=by exact ap.out);exact zK_ af⟩,⟨by refine zbp (cs := #[.slice b9 bm.length ca,.slice none 0 0]) ?_ 1 _ rfl;refine zbp (cs := #[.slice none 0 0,.slice none 0 0]) ?_ 0 _ rfl;exact zK_ ag⟩,⟨zIs HI0⟩,⟨zKp HK⟩,⟨zBw HB⟩⟩
   case round =>
    clear H';(try clear c6);(try clear bY);(try clear b2);(try clear c7);(try clear b3);(try clear b4);(try clear be);(try clear bf);(try clear bn);(try clear bo);(try clear bp);(try clear bq);obtain⟨aQ,aa,ac,u319000,u319001,rfl,HA,bU,ab,ae,af,ag,HI0,HK,HB⟩:=hrel
    cases gk with
    | zero=>exact absurd HA.out (by simp [s1f_.l1])
    | succ k2 =>
     have H:=HA.out;clear HA;simp only [s1f_.l1] at H;have cJ:=A0_ H;clear H
     go_upto_region 11 with(fail)
     go_cut [64] (fun v64 wc => ∃ (kq:Nat) (bh:Bool),v64 = .bool bh∧Aside0 (s1f_.j2 kq aw aQ bh s0_0 ao aa ac=some (r1,r2,r3))∧Aside0 (kq≤k2)∧Aside0 (Kd.Q (Kd.int .i64) 3 wc w.heap.size (fun k_=>some k_≠(u319001:Value).ownBlock) u319000 aa)∧Aside0 (Kd.R (Kd.int .i64) 3 wc w.heap.size (fun k_=>some k_≠(u319000:Value).ownBlock) u319001 ac)∧Aside0 (wc.heap[aj]? = some (.cells #[(.slice none 0 0),(.slice none 0 0)] 25 (0,0)))∧Aside0 (wc.heap[am]? = some (.cells #[u319000,u319001] 25 (0,0)))∧Aside0 (IsS82 w0 wc g s0_0 ao)∧Aside0 (KeepBut w wc g none)∧Aside0 (Below w0.heap.size w0 wc))
     case first =>
      have H:=cJ.out;clear cJ
      by_cases bV:aQ<aw
      ·rw [if_pos bV] at H
       have bi:=dT bV;clear bV
       (first|rw [bi]|(simp only [i64_w,i32_w];rw [bi])|skip)
       obtain⟨dI,fR,H⟩:=zbind H;have H':=A0_ H;clear H;have gr:=aC.out;have gs:=ap.out;have gt:=av.out;have gu:=au.out;have fi:=zc0 ag;have fj:=zc1 ag;have fk:=kF ag.out 0;have fl:=kF ag.out 1;obtain⟨g7,g8,eL,_⟩:=Kd.Q_slice ab.out;subst eL;obtain⟨g9,ha,eM⟩:=rS ae.out;subst eM
       go_wp2_with (first|(go_at_call 57;(with_reducible refine(sx_.calls k2 _ _ aa _ _ ac dI _ ?ax ?ay ?cb ?cc fR.out).mono ?_);(case ax=>exact zDQ ab);(case ay=>exact(Kd.Q_reads' ab.out).2.1);(case cb=>exact zD ae);(case cc=>exact(rR ae.out).2.1);rintro e w47 ⟨rfl,hb⟩;replace ab:=A0_ (Kd.Q_below (zQ_ ab) hb);replace ae:=zR ae hb;replace af:=zK af hb;replace ag:=zK ag hb;replace HK:=A0_ (KeepBut.trans (zKp HK) (KeepBut.of_below hb g none) (.inl rfl));replace HB:=A0_ (bT (zBw HB) hb);replace HI0:=A0_ (IsS82.below (zIs HI0) hb);(try clear hb)))
       go_meet
       case rel=>exact⟨_,(!dI),zt,H',⟨by have:=bu.out;have:=bU.out;first|omega|exact Nat.le_refl _⟩,⟨zQ_ ab⟩,⟨zR_ ae⟩,⟨zK_ af⟩,⟨zK_ ag⟩,⟨zIs HI0⟩,⟨zKp HK⟩,⟨zBw HB⟩⟩
      rw [if_neg bV] at H;have bi:=dF bV;clear bV
      (first|rw [bi]|(simp only [i64_w,i32_w];rw [bi])|skip)
      have H':=A0_ H;clear H
      go_wp2
      go_meet
      case rel=>exact⟨_,(false),zt,H',⟨by have:=bu.out;have:=bU.out;first|omega|exact Nat.le_refl _⟩,⟨zQ_ ab⟩,⟨zR_ ae⟩,⟨zK_ af⟩,⟨zK_ ag⟩,⟨zIs HI0⟩,⟨zKp HK⟩,⟨zBw HB⟩⟩
     case rest =>
      clear cJ;(try clear c6);(try clear bY);(try clear b2);(try clear c7);(try clear b3);(try clear b4);(try clear be);(try clear bf);(try clear bn);(try clear bo);(try clear bp);(try clear bq);obtain⟨kq,bh,rfl,HA,cd,ab,ae,af,ag,HI0,HK,HB⟩:=hcut
      cases kq with
      | zero=>exact absurd HA.out (by simp [s1f_.j2])
      | succ aZ =>
       have H:=HA.out;clear HA;simp only [s1f_.j2] at H
       by_cases cq:bh=true
       ·subst cq
        have H1:((s14_.f aZ aa ac).bind fun aE=>(s1f_.l2 aZ aw aQ aE 0 s0_0 ao aa ac))=some (r1,r2,r3):=by rw [if_pos rfl] at H;exact H
        clear H;have H:=H1;clear H1;obtain⟨aE,fS,H⟩:=zbind H;have H':=A0_ H;clear H;have gv:=aC.out;have gw:=ap.out;have gx:=av.out;have gy:=au.out;have di:=zc0 ag;have dj:=zc1 ag;have dk:=kF ag.out 0;have dl:=kF ag.out 1;obtain⟨bC,aG,eN,_⟩:=Kd.Q_slice ab.out;subst eN;obtain⟨aK,aM,eO⟩:=rS ae.out;subst eO
        go_wp2_with (first|((with_reducible refine gC (f:=103) rfl ?_);refine zJ (some 71) Try.func103 #[.slice bC aa.length aG,.slice aK ac.length aM] ?_;(with_reducible refine(s14_.calls aZ _ _ aa _ _ ac aE _ ?ax ?ay ?cb ?cc fS.out).mono ?_);(case ax=>exact zDQ ab);(case ay=>exact(Kd.Q_reads' ab.out).2.1);(case cb=>exact zD ae);(case cc=>exact(rR ae.out).2.1);rintro e w55 ⟨cK,rfl,a6,hb⟩;refine⟨_,rfl,?_⟩;have d9:=A0_ (rL (Kd.R_new' (Kd.R_new' a6 (Kd.Q_lt (zQ_ ab))) (rX (zR_ ae))) (keep_size (w:=w) (g:=g) (row:=none) (zKp HK)));replace ab:=A0_ (Kd.Q_elder' (zQ_ ab) (Kd.R_base a6) hb);replace ae:=A0_ (Kd.R_elder' (zR_ ae) (Kd.R_base a6) hb);replace af:=zK af hb;replace ag:=zK ag hb;replace HK:=A0_ (KeepBut.trans (zKp HK) (KeepBut.of_below hb g none) (.inl rfl));replace HB:=A0_ (bT (zBw HB) hb);replace HI0:=A0_ (IsS82.below (zIs HI0) hb);(try clear hb);(try clear a6)))
        go_loopg [12] aZ (fun kq v12 w' => ∃ (ai:Int),v12 = .int .i64 ai∧Aside0 (s1f_.l2 kq aw aQ aE ai s0_0 ao aa ac=some (r1,r2,r3))∧Aside0 (kq≤aZ)∧Aside0 (Kd.R (Kd.int .i64) 3 w' w.heap.size (fun k_=>some k_≠((.slice bC aa.length aG):Value).ownBlock∧some k_≠((.slice aK ac.length aM):Value).ownBlock) cK aE)∧Aside0 (Kd.Q (Kd.int .i64) 3 w' w.heap.size (fun k_=>some k_≠(cK:Value).ownBlock∧some k_≠((.slice aK ac.length aM):Value).ownBlock) (.slice bC aa.length aG) aa)∧Aside0 (Kd.R (Kd.int .i64) 3 w' w.heap.size (fun k_=>some k_≠(cK:Value).ownBlock∧some k_≠((.slice bC aa.length aG):Value).ownBlock) (.slice aK ac.length aM) ac)∧Aside0 (w'.heap[aj]? = some (.cells #[(.slice none 0 0),(.slice none 0 0)] 25 (0,0)))∧Aside0 (w'.heap[am]? = some (.cells #[(.slice bC aa.length aG),(.slice aK ac.length aM)] 25 (0,0)))∧Aside0 (IsS82 w0 w' g s0_0 ao)∧Aside0 (KeepBut w w' g none)∧Aside0 (Below w0.heap.size w0 w'))
        case atStart=>exact⟨(0),zt,H',⟨Nat.le_refl _⟩,⟨zmR d9 (fun _ hk=>⟨hk.1.2,hk.2⟩)⟩,⟨zmQ ab (fun _ hk=>⟨hk.2,hk.1⟩)⟩,⟨zmR ae (fun _ hk=>⟨hk.2,hk.1⟩)⟩,⟨zK_ af⟩,⟨zK_ ag⟩,⟨zIs HI0⟩,⟨zKp HK⟩,⟨zBw HB⟩⟩
        case round =>
         clear H';(try clear c6);(try clear bY);(try clear b2);(try clear c7);(try clear b3);(try clear b4);(try clear be);(try clear bf);(try clear cq);(try clear bn);(try clear bo);(try clear di);(try clear dj);(try clear bp);(try clear bq);(try clear dk);(try clear dl);obtain⟨ai,rfl,HA,dc,aH,ab,ae,af,ag,HI0,HK,HB⟩:=hrel
         cases gk with
         | zero=>exact absurd HA.out (by simp [s1f_.l2])
         | succ k4 =>
          have H:=HA.out;clear HA;simp only [s1f_.l2] at H
          have eA:=zpc H;replace H:=zph H
          have gz:=dT eA;clear eA
          have eB:=zpc H;replace H:=zph H
          have gE:=dT eB;clear eB
          by_cases bE:(rd aE ai)=0
          ·rw [if_pos bE] at H
           have ea:((rd aE ai) == 0)=true:=beq_iff_eq.mpr bE
           have eb:((rd aE ai) != 0)=false:=bne_eq_false_iff_eq.mpr bE
           clear bE;have H':=A0_ H;clear H;obtain⟨hh,hm,eP⟩:=rS aH.out;subst eP
           have ba:0≤(ai:Int):=zd
           have bb:ai<(aE.length:Int):=zd
           obtain⟨a8,cL,dm⟩:=tI (rR aH.out).2.2 ai ba bb
           cases cL
           replace ba:=eq_true ba;replace bb:=eq_true bb
           go_wp2
           go_roundg k4
           case measure=>have:=bu.out;have:=bU.out;have:=cd.out;have:=dc.out;omega
           case rel=>exact⟨(wrap64 (ai+1)),zt,H',⟨by have:=bu.out;have:=bU.out;have:=cd.out;have:=dc.out;omega⟩,⟨zR_ aH⟩,⟨zQ_ ab⟩,⟨zR_ ae⟩,⟨zK_ af⟩,⟨zK_ ag⟩,⟨zIs HI0⟩,⟨zKp HK⟩,⟨zBw HB⟩⟩
          rw [if_neg bE] at H
          have ea:((rd aE ai) == 0)=false:=beq_eq_false_iff_ne.mpr bE
          have eb:((rd aE ai) != 0)=true:=bne_iff_ne.mpr bE
          have eC:=zpc H;replace H:=zph H
          have gF:=dT eC
          have gG:decide (0<aa.length)=true:=dT (by omega)
          clear eC
          have eD:=zpc H;replace H:=zph H
          have gH:=dT eD;clear eD
          obtain⟨cM,ce⟩ : ∃ y_:List Int,y_=(aa.set (0:Int).toNat (rd aa ai)):=⟨_,rfl⟩
          replace H:(s1f_.l1 k4 aw (wrap64 (aQ+1)) s0_0 ao (cM.set (ai:Int).toNat (rd aa 0)) ac)=some (r1,r2,r3):=zH ce H
          have ec:=A0_ ce;clear ce
          obtain⟨cO,cf⟩ : ∃ y_:List Int,y_=(cM.set (ai:Int).toNat (rd aa 0)):=⟨_,rfl⟩
          replace H:(s1f_.l1 k4 aw (wrap64 (aQ+1)) s0_0 ao cO ac)=some (r1,r2,r3):=zH cf H
          have ed:=A0_ cf;clear cf;have H':=A0_ H;clear H;obtain⟨hs,bF,eQ⟩:=rS aH.out;subst eQ
          have ba:0≤(ai:Int):=zd
          have bb:ai<(aE.length:Int):=zd
          obtain⟨a8,cL,dm⟩:=tI (rR aH.out).2.2 ai ba bb
          cases cL
          replace ba:=eq_true ba;replace bb:=eq_true bb;have gI:=aC.out;have gJ:=ap.out;have gK:=av.out;have gL:=au.out;have fm:=zc0 ag;have fo:=zc1 ag;have fp:=kF ag.out 0;have fq:=kF ag.out 1
          have cP:0≤(0:Int):=(by omega)
          have cQ:0<(aa.length:Int):=zd
          obtain⟨ee,eR,a9⟩:=tI (Kd.Q_reads' ab.out).2.2 0 cP cQ
          cases eR
          have qi324:(0<aa.length)=True:=eq_true (by omega)
          (try rw [show((0:Int)).toNat=0 from rfl] at a9)
          (try rw [Addr.add_zero'] at a9)
          replace cP:=eq_true cP;replace cQ:=eq_true cQ
          try go_wp2
          replace aH:=A0_ (rD aH.out)
          replace ab:=A0_ (Kd.Q_drew ab.out)
          replace ae:=A0_ (rD ae.out)
          replace af:=A0_ (kD af.out)
          replace ag:=A0_ (kD ag.out)
          replace HI0:=A0_ (IsS82.drew HI0.out)
          replace HK:=A0_ (keep_drew HK.out)
          replace HB:=A0_ (bD HB.out)
          have cR:0≤(ai:Int):=zd
          have cS:ai<(aa.length:Int):=zd
          obtain⟨ef,eS,br⟩:=tI (Kd.Q_reads' ab.out).2.2 ai cR cS
          obtain rfl:ee=ef:=(by injection eS)
          replace cR:=eq_true cR;replace cS:=eq_true cS
          have dJ:0≤(0:Int):=(by omega)
          have dK:(0:Int)<((aa.length:Int):Int):=zd
          have qi62:(0<aa.length)=True:=eq_true (by omega)
          obtain⟨an,oo62,hu,dL,dM,gl62,cl62,HG62⟩:=Kd.Q_form ab.out (by omega)
          (first|cases dL|(injection dL with ea_ en_ ec_;(first|subst ea_|(injection ea_ with ea_;subst ea_));subst ec_;clear en_))
          have GB62:=A0_ dM;have GG62:=A0_ HG62;clear dM gl62 HG62
          (first|simp only [add_at] at a9|skip)
          (first|simp only [add_at] at br|skip)
          obtain⟨bG,bH⟩:=Kd.Q_cell 0 ab.out (0:Int) dJ dK
          (try rw [show((0:Int)).toNat=0 from rfl] at bG)
          (try simp only [Nat.reduceMul,Nat.zero_mul,Nat.zero_add,Nat.add_zero,Nat.reduceAdd] at bG)
          (try rw [show((0:Int)).toNat=0 from rfl] at bH)
          (try simp only [Nat.reduceMul,Nat.zero_mul,Nat.zero_add,Nat.add_zero,Nat.reduceAdd] at bH)
          replace dJ:=eq_true dJ;replace dK:=eq_true dK
          have HN0_go62:=A0_ (show g≠an from by have h_:=IsS82.own_neQ HI0.out ab.out (by decide);intro e_;exact h_ (by rw [e_];rfl))
          have HP69:=(Kd.Q_putg ab.out (0:Int) (by omega) (by have h_:(0:Int)<((aa.length:Int):Int):=zd;first|exact h_|(have e_:=(Kd.Q_reads' ab.out).1;omega)|simpa using h_) (rd aa ai)).1
          rw [← ec.out] at HP69
          have HQ69:=A0_ HP69;clear HP69
          refine start_ (n:=9) (S:=fun w'=>w'.cell? ⟨am,0,none⟩=some (.slice (some ⟨an,oo62,none⟩) aa.length aG)∧w'.cell? ⟨am,1,none⟩=some (.slice aK ac.length aM)∧w'.cell? ⟨an,oo62+(ai).toNat,none⟩=some (.int .i64 (rd aa ai))) (ds := [8]) (bs 9 0) (by kernel_rfl) rfl rfl ⟨(kC ag.out 0).trans rfl,(kC ag.out 1).trans rfl,br⟩ (fun hHeld => ?_);refine with_tabW s1f_.tab18 s1f_.bits18 (fun HT_ HW_ => ?_)
          generalize wr.drew=w68 at aH ab ae af ag HI0 HK HB GG62 HQ69 bH a9 br bG hHeld ⊢
          refine zP 0 (some 83) (bs 9 1) ?_
          refine zP 2 (some 85) (bs 9 5) ?_
          refine zP 4 (some 87) (bs 9 21) ?_
          refine zT 1 (some 84) (bs 9 23) hHeld ?_
          refine zT 3 (some 86) (bs 9 31) hHeld ?_
          refine zP 5 (some 88) (bs 9 63) ?_
          refine zT 6 (some 89) (bs 9 127) hHeld ?_
          refine zP 7 (some 90) (bs 9 255) ?_
          refine last_ (i:=8) (N:=none) (bs 9 511) rfl rfl (one_of HT_.out (by kernel_rfl)) (by decide) (fun K hK => ?_)
          refine skip_ (w1 := ?_) (by rfl) rfl ?_ ?_
          rotate_left
          ·go_simp
           rfl
          refine hK.out _ _ ?_
          clear hK K
          refine done_ (done_of HT_.out (by kernel_rfl)) ?_
          have n0_:Aside0 (Kd.R (Kd.int .i64) 3 (w68.setCell ⟨an,oo62,none⟩ (.int .i64 (rd aa ai))) w.heap.size (fun k_=>some k_≠(.slice (some ⟨an,oo62,none⟩) aa.length aG:Value).ownBlock∧some k_≠(.slice aK ac.length aM:Value).ownBlock) (.slice (some a8) aE.length bF) aE):=⟨by(with_reducible repeat(first|apply rA|apply rN|apply rD));exact rM (rF (p:=⟨an,oo62,none⟩) (rM aH.out (fun k_ hk=>(⟨hk,fun e_=>hk.1 (by rw [e_];rfl)⟩:_∧k_≠an))) (fun _ hk=>hk.2) (.int .i64 (rd aa ai))) (fun _ hk=>⟨hk.1.1,hk.1.2⟩)⟩
          have n1_:Aside0 (Kd.Q (Kd.int .i64) 3 (w68.setCell ⟨an,oo62,none⟩ (.int .i64 (rd aa ai))) w.heap.size (fun k_=>some k_≠(.slice (some a8) aE.length bF:Value).ownBlock∧some k_≠(.slice aK ac.length aM:Value).ownBlock) (.slice (some ⟨an,oo62,none⟩) aa.length aG) cM):=⟨zQ_ HQ69⟩
          have n2_:Aside0 (Kd.R (Kd.int .i64) 3 (w68.setCell ⟨an,oo62,none⟩ (.int .i64 (rd aa ai))) w.heap.size (fun k_=>some k_≠(.slice (some a8) aE.length bF:Value).ownBlock∧some k_≠(.slice (some ⟨an,oo62,none⟩) aa.length aG:Value).ownBlock) (.slice aK ac.length aM) ac):=⟨by(with_reducible repeat(first|apply rA|apply rN|apply rD));exact rM (rF (p:=⟨an,oo62,none⟩) (rM ae.out (fun k_ hk=>(⟨hk,fun e_=>hk.2 (by rw [e_];rfl)⟩:_∧k_≠an))) (fun _ hk=>hk.2) (.int .i64 (rd aa ai))) (fun _ hk=>⟨hk.1.1,hk.1.2⟩)⟩
          have n3_:Aside0 ((w68.setCell ⟨an,oo62,none⟩ (.int .i64 (rd aa ai))).heap[aj]? = some (.cells #[.slice none 0 0,.slice none 0 0] 25 (0,0))):=⟨by refine zbf ?_ _ (hp:=by have h_:=Kd.Q_ne ab.out af.out (by decide);intro e_;exact h_ (by rw [e_];rfl));exact zK_ af⟩
          have n4_:Aside0 ((w68.setCell ⟨an,oo62,none⟩ (.int .i64 (rd aa ai))).heap[am]? = some (.cells #[.slice (some ⟨an,oo62,none⟩) aa.length aG,.slice aK ac.length aM] 25 (0,0))):=⟨by refine zbf ?_ _ (hp:=by have h_:=Kd.Q_ne ab.out ag.out (by decide);intro e_;exact h_ (by rw [e_];rfl));exact zK_ ag⟩
          have n5_:Aside0 (IsS82 w0 (w68.setCell ⟨an,oo62,none⟩ (.int .i64 (rd aa ai))) g s0_0 ao):=⟨by repeat(first|(with_reducible first|exact HI0.out|apply IsS82.alloc|apply IsS82.drewN|apply IsS82.drew|apply IsS82.set_1|refine IsS82.far ?_ HN0_go62.out _|refine IsS82.far ?_ aq.out _|refine IsS82.far ?_ au.out _)|exact HI0.out)⟩
          have n6_:Aside0 (KeepBut w (w68.setCell ⟨an,oo62,none⟩ (.int .i64 (rd aa ai))) g none):=⟨by repeat(first|(with_reducible first|exact HK.out|apply KeepBut.set_|apply keep_drewN|apply keep_drew|apply keep_alloc|refine keep_far ?_ GB62.out _|refine keep_far ?_ b6.out _|refine keep_far ?_ d8.out _)|exact HK.out)⟩
          have n7_:Aside0 (Below w0.heap.size w0 (w68.setCell ⟨an,oo62,none⟩ (.int .i64 (rd aa ai)))):=⟨by repeat(first|(with_reducible first|exact HB.out|apply bA|apply bN|apply bD|refine bS ?_ (Nat.le_trans HL.out GB62.out)|refine bS ?_ (IsS82.ge HI0.out)|refine bS ?_ aN.out|refine bS ?_ bg.out)|exact HB.out)⟩
          (try clear aH);(try clear ab);(try clear ae);(try clear af);(try clear ag);(try clear HI0);(try clear HK);(try clear HB)
          generalize (w68.setCell ⟨an,oo62,none⟩ (.int .i64 (rd aa ai)))=w70 at n0_ n1_ n2_ n3_ n4_ n5_ n6_ n7_ ⊢
          have aH:=n0_;have ab:=n1_;have ae:=n2_;have af:=n3_;have ag:=n4_;have HI0:=n5_;have HK:=n6_;have HB:=n7_;clear n0_ n1_ n2_ n3_ n4_ n5_ n6_ n7_;have fs:=zc0 ag;have ft:=zc1 ag;have fu:=kF ag.out 0;have fv:=kF ag.out 1
          have dN:0≤(ai:Int):=zd
          have dO:(ai:Int)<((aa.length:Int):Int):=zd
          obtain⟨fT,fU⟩:=Kd.Q_cell 0 ab.out (ai:Int) dN dO
          replace dN:=eq_true dN;replace dO:=eq_true dO
          obtain⟨hy72_,hz72_⟩:=Kd.Q_cell 0 ab.out (ai:Int) (zd) (zd)
          have HP72:=Kd.Q_putg ab.out (ai:Int) (zd) (by have h_:(ai:Int)<((aa.length:Int):Int):=zd;first|exact h_|(have e_:=(Kd.Q_reads' ab.out).1;omega)|simpa using h_) (rd aa 0)
          try go_wp2_with (first|((with_reducible refine gS (t:=3) (p:=95) rfl ?_);refine store_event (t:=3) (p:=95) (v := ?vo_w73) (w1:=(w70.setCell ⟨an,oo62+(ai:Int).toNat,none⟩ (.int .i64 (rd aa 0)))) ?hg ?ho ?hn ?hr ?_;(case ho=>rfl);(case hg=>rfl);(case hn=>rfl);(case hr=>first|(go_simp;done)|(go_simp;rfl));intro w73 hw;have hg:w70.grownBy w73 (some an):=(by rw [hw];exact HP72.2);have hp_:Kd.Q (Kd.int .i64) 3 w73 w.heap.size (fun k_=>some k_≠(.slice (some a8) aE.length bF:Value).ownBlock∧some k_≠(.slice aK ac.length aM:Value).ownBlock) (.slice (some ⟨an,oo62,none⟩) aa.length aG) cO:=(by rw [hw,ed.out];exact HP72.1);clear HP72;replace aH:=A0_ (Kd.R_after (v:=(.slice (some ⟨an,oo62,none⟩) aa.length aG)) (v1:=(.slice (some ⟨an,oo62,none⟩) aa.length aG)) (ok:=(fun k_=>some k_≠(.slice aK ac.length aM:Value).ownBlock)) (zmR aH (fun _ hk=>⟨hk.2,hk.1⟩)) hg (.inl rfl));replace ae:=A0_ (Kd.R_after (v:=(.slice (some ⟨an,oo62,none⟩) aa.length aG)) (v1:=(.slice (some ⟨an,oo62,none⟩) aa.length aG)) (ok:=(fun k_=>some k_≠(.slice (some a8) aE.length bF:Value).ownBlock)) (zR_ ae) hg (.inl rfl));replace af:=A0_ (blk_grown (g:=aj) (o := .cells #[.slice none 0 0,.slice none 0 0] 25 (0,0)) (zK_ af) hg (Kd.Q_ne ab.out af.out (by decide)));replace ag:=A0_ (blk_grown (g:=am) (o := .cells #[.slice (some ⟨an,oo62,none⟩) aa.length aG,.slice aK ac.length aM] 25 (0,0)) (zK_ ag) hg (Kd.Q_ne ab.out ag.out (by decide)));replace HI0:=A0_ (IsS82.grown (zIs HI0) hg (IsS82.own_neQ HI0.out ab.out (by decide)));replace HB:=A0_ ((by rw [hw];exact bS (HB.out) (Nat.le_trans HL.out GB62.out):Below w0.heap.size w0 w73));replace HK:=A0_ (KeepBut.trans (zKp HK) (KeepBut.of_grown hg g) (Kd.Q_base2 ab.out));replace ab:=A0_ (hp_);clear hg hw hp_))
          go_roundg k4
          case measure=>have:=bu.out;have:=bU.out;have:=cd.out;have:=dc.out;omega
          case rel=>exact⟨(wrap64 (aQ+1)),(cO),(ac),(.slice (some ⟨an,oo62,none⟩) aa.length aG),(.slice aK ac.length aM),zt,H',⟨by have:=bu.out;have:=bU.out;have:=cd.out;have:=dc.out;omega⟩,⟨zmQ ab (fun _ hk=>hk.2)⟩,⟨zmR ae (fun _ hk=>hk.2)⟩,⟨zK_ af⟩,⟨zK_ ag⟩,⟨zIs HI0⟩,⟨zKp HK⟩,⟨zBw HB⟩⟩
       replace cq:=Bool.eq_false_iff.mpr cq;subst cq
       have H1:((s1a_.f aZ s0_0 ao 50).bind fun a4=>(if a4.1=0 then (if 0<(ac.length:Int) then (some (aa,(ac.set (0:Int).toNat 0),a4.2)) else (none)) else (if a4.1=1 then (if 1≤(aa.length:Int) then (some ((aa.drop (1:Int).toNat),ac,a4.2)) else (none)) else (if a4.1=2 then (if 0<(aa.length:Int) then (some ((aa.set (0:Int).toNat aw),ac,a4.2)) else (none)) else (some (aa,ac,a4.2))))))=some (r1,r2,r3):=by rw [if_neg (show ¬ (false=true) by decide)] at H;exact H
       clear H;have H:=H1;clear H1;obtain⟨⟨aD,bc⟩,dd,H⟩:=zbind H;dsimp only at H
       by_cases bI:aD=0
       ·rw [if_pos bI] at H
        have eg:(aD == 0)=true:=beq_iff_eq.mpr bI
        have eh:(aD != 0)=false:=bne_eq_false_iff_eq.mpr bI
        clear bI
        have eE:=zpc H;replace H:=zph H
        have gM:=dT eE
        have gN:decide (0<ac.length)=true:=dT (by omega)
        clear eE
        obtain⟨dP,cg⟩ : ∃ y_:List Int,y_=(ac.set (0:Int).toNat 0):=⟨_,rfl⟩
        replace H:(some (aa,dP,bc))=some (r1,r2,r3):=zH cg H
        have ei:=A0_ cg;clear cg;simp only [Option.some.injEq,Prod.mk.injEq] at H;obtain⟨rfl,rfl,rfl⟩:=H
        go_wp2_with (first|((with_reducible refine gC (f:=74) rfl ?_);refine zJ (some 97) Try.func74 #[.pointer (some ⟨g,0,none⟩),.int .i64 50] ?_;(with_reducible refine(s1a_.calls aZ g s0_0 ao 50 aD bc w0 _ ?ax ?ay dd.out).mono ?_);(case ax=>repeat(first|(with_reducible first|exact HI0.out|apply IsS82.alloc|apply IsS82.drewN|apply IsS82.drew|apply IsS82.set_1|refine IsS82.far ?_ aq.out _|refine IsS82.far ?_ au.out _)|exact HI0.out));(case ay=>repeat(first|(with_reducible first|exact HB.out|apply bA|apply bN|apply bD|refine bS ?_ (IsS82.ge HI0.out)|refine bS ?_ aN.out|refine bS ?_ bg.out)|exact HB.out));rintro e w78 ⟨rfl,hi,hb,hk⟩;refine⟨_,rfl,?_⟩;replace ab:=A0_ (Kd.Q_mono (Kd.Q_keep (IsS82.apartQ (show IsS82 w0 _ g s0_0 ao from zIs HI0) (zQ_ ab) (by decide)) hk (fun _ h=>h.2)) (fun _ h=>h.1));replace ae:=A0_ (rM (Kd.R_keep (IsS82.apart (show IsS82 w0 _ g s0_0 ao from zIs HI0) (zR_ ae) (by decide)) hk (fun _ h=>h.2)) (fun _ h=>h.1));replace af:=A0_ (KeepBut.blk hk (g':=aj) (o := .cells #[.slice none 0 0,.slice none 0 0] 25 (0,0)) (zK_ af) az.out (by simp));replace ag:=A0_ (KeepBut.blk hk (g':=am) (o := .cells #[u319000,u319001] 25 (0,0)) (zK_ ag) av.out (by simp));replace HK:=A0_ (KeepBut.trans (zKp HK) hk (.inl rfl));replace HB:=A0_ (hb);replace HI0:=A0_ (hi);(try clear hb);have gO:=aC.out;have gP:=ap.out;have gQ:=av.out;have gR:=au.out;have fw:=zc0 ag;have fx:=zc1 ag;have fy:=kF ag.out 0;have fz:=kF ag.out 1;have dQ:0≤(0:Int):=(by omega);have dR:(0:Int)<((ac.length:Int):Int):=zd;have qi77:(0<ac.length)=True:=eq_true (by omega);obtain⟨a5,bd,dS,dU,gl77,cl77,HG77⟩:=Kd.R_form ae.out (by omega);(first|cases dS|(injection dS with ea_ en_ ec_;(first|subst ea_|(injection ea_ with ea_;subst ea_));subst ec_;clear en_));have GB77:=A0_ dU;have GG77:=A0_ HG77;clear dU gl77 HG77;obtain⟨cr,ct⟩:=Kd.R_celln 0 ae.out (0:Int) dQ dR;(try rw [show((0:Int)).toNat=0 from rfl] at cr);(try simp only [Nat.reduceMul,Nat.zero_mul,Nat.zero_add,Nat.add_zero,Nat.reduceAdd] at cr);(try rw [show((0:Int)).toNat=0 from rfl] at ct);(try simp only [Nat.reduceMul,Nat.zero_mul,Nat.zero_add,Nat.add_zero,Nat.reduceAdd] at ct);replace dQ:=eq_true dQ;replace dR:=eq_true dR;obtain⟨hy82_,hz82_⟩:=Kd.R_celln 0 ae.out (0:Int) (by omega) (zd);(try simp only [Int.reduceToNat,Int.toNat_zero,Int.toNat_ofNat,Nat.reduceMul,Nat.zero_mul,Nat.zero_add,Nat.add_zero] at hy82_ hz82_);(try rw [show((0:Int)).toNat=0 from rfl] at hy82_);(try rw [show((0:Int)).toNat=0 from rfl] at hz82_);have HP82:=Kd.R_putg ae.out (0:Int) 0)|((with_reducible refine gS (t:=3) (p:=102) rfl ?_);refine store_event (t:=3) (p:=102) (v := ?vo_w83) (w1:=(w78.setCell ⟨a5,(0:Int).toNat,none⟩ (.int .i64 0))) ?hg ?ho ?hn ?hr ?_;(case ho=>rfl);(case hg=>rfl);(case hn=>rfl);(case hr=>first|(go_simp;done)|(go_simp;rfl));intro w83 hw;have hg:w78.grownBy w83 (some a5):=(by rw [hw];exact HP82.2);have hp_:Kd.R (Kd.int .i64) 3 w83 w.heap.size (fun k_=>some k_≠(u319000:Value).ownBlock) (.slice (some ⟨a5,0,none⟩) ac.length bd) dP:=(by rw [hw,ei.out];exact HP82.1);clear HP82;replace ab:=A0_ (Kd.Q_after (v:=(.slice (some ⟨a5,0,none⟩) ac.length bd)) (v1:=(.slice (some ⟨a5,0,none⟩) ac.length bd)) (ok:=(fun _=>True)) (zmQ ab (fun _ hk=>⟨trivial,hk⟩)) hg (.inl rfl));replace af:=A0_ (blk_grown (g:=aj) (o := .cells #[.slice none 0 0,.slice none 0 0] 25 (0,0)) (zK_ af) hg (Kd.R_ne ae.out af.out (by decide)));replace ag:=A0_ (blk_grown (g:=am) (o := .cells #[u319000,.slice (some ⟨a5,0,none⟩) ac.length bd] 25 (0,0)) (zK_ ag) hg (Kd.R_ne ae.out ag.out (by decide)));replace HI0:=A0_ (IsS82.grown (zIs HI0) hg (IsS82.own_ne HI0.out ae.out (by decide)));replace HB:=A0_ ((by rw [hw];exact bS (HB.out) (Nat.le_trans HL.out GB77.out):Below w0.heap.size w0 w83));replace HK:=A0_ (KeepBut.trans (zKp HK) (KeepBut.of_grown hg g) (Kd.R_base2 ae.out));replace ae:=A0_ (hp_);clear hg hw hp_;have fA:=zc0 ag;have fB:=zc1 ag;have fC:=kF ag.out 0;have fD:=kF ag.out 1;obtain⟨ch,ci,eT,_⟩:=Kd.Q_slice ab.out;subst eT;have gT:=az.out;have gU:=aq.out;have fE:=zc0 af;have fF:=zc1 af;have fG:=kF af.out 0;have fH:=kF af.out 1))
        refine bodyPost_ret (results_cell_row rfl _ _ aj 25 #[.slice ch aa.length ci,.slice (some ⟨a5,0,none⟩) ac.length bd] (0,0) _ rfl (by refine zbp (cs := #[.slice ch aa.length ci,.slice none 0 0]) ?_ 1 _ rfl;refine zbp (cs := #[.slice none 0 0,.slice none 0 0]) ?_ 0 _ rfl;exact zK_ af) Try.underlying25 rfl (by kernel_rfl)) rfl ?_
        exact⟨_,_,by first|rfl|(simp [errW_none,errW_some] <;> rfl)|(simp only [← aX];first|rfl|(simp [errW_none,errW_some] <;> rfl))|(simp [*,errW_none,errW_some] <;> rfl),by(with_reducible repeat(first|apply Kd.Q_alloc|apply Kd.Q_drewN|apply Kd.Q_drew));exact Kd.Q_mono (Kd.Q_far (p:=⟨aj,1,none⟩) (Kd.Q_far (p:=⟨aj,0,none⟩) (Kd.Q_types ab.out af.out (by decide)) (fun _ hk=>hk.2) (.slice ch aa.length ci)) (fun _ hk=>hk.2) (.slice (some ⟨a5,0,none⟩) ac.length bd)) (fun _ hk=>hk.1.2),zF ae af (.slice ch aa.length ci) (.slice (some ⟨a5,0,none⟩) ac.length bd) 0 1,zIs HI0,zBw HB,zKp HK⟩
       rw [if_neg bI] at H
       have eg:(aD == 0)=false:=beq_eq_false_iff_ne.mpr bI
       have eh:(aD != 0)=true:=bne_iff_ne.mpr bI
       by_cases bJ:aD=1
       ·rw [if_pos bJ] at H
        have ej:(aD == 1)=true:=beq_iff_eq.mpr bJ
        have ek:(aD != 1)=false:=bne_eq_false_iff_eq.mpr bJ
        clear bJ
        have dV:=zpc H;replace H:=zph H
        have gV:=eq_true dV;have gW:=dT dV;clear dV
        obtain⟨aV,cj⟩ : ∃ y_:List Int,y_=(aa.drop (1:Int).toNat):=⟨_,rfl⟩
        replace H:(some (aV,ac,bc))=some (r1,r2,r3):=zH cj H
        have de:=A0_ cj;clear cj;simp only [Option.some.injEq,Prod.mk.injEq] at H;obtain⟨rfl,rfl,rfl⟩:=H
        go_wp2_with (first|((with_reducible refine gC (f:=74) rfl ?_);refine zJ (some 97) Try.func74 #[.pointer (some ⟨g,0,none⟩),.int .i64 50] ?_;(with_reducible refine(s1a_.calls aZ g s0_0 ao 50 aD bc w0 _ ?ax ?ay dd.out).mono ?_);(case ax=>repeat(first|(with_reducible first|exact HI0.out|apply IsS82.alloc|apply IsS82.drewN|apply IsS82.drew|apply IsS82.set_1|refine IsS82.far ?_ aq.out _|refine IsS82.far ?_ au.out _)|exact HI0.out));(case ay=>repeat(first|(with_reducible first|exact HB.out|apply bA|apply bN|apply bD|refine bS ?_ (IsS82.ge HI0.out)|refine bS ?_ aN.out|refine bS ?_ bg.out)|exact HB.out));rintro e w90 ⟨rfl,hi,hb,hk⟩;refine⟨_,rfl,?_⟩;replace ab:=A0_ (Kd.Q_mono (Kd.Q_keep (IsS82.apartQ (show IsS82 w0 _ g s0_0 ao from zIs HI0) (zQ_ ab) (by decide)) hk (fun _ h=>h.2)) (fun _ h=>h.1));replace ae:=A0_ (rM (Kd.R_keep (IsS82.apart (show IsS82 w0 _ g s0_0 ao from zIs HI0) (zR_ ae) (by decide)) hk (fun _ h=>h.2)) (fun _ h=>h.1));replace af:=A0_ (KeepBut.blk hk (g':=aj) (o := .cells #[.slice none 0 0,.slice none 0 0] 25 (0,0)) (zK_ af) az.out (by simp));replace ag:=A0_ (KeepBut.blk hk (g':=am) (o := .cells #[u319000,u319001] 25 (0,0)) (zK_ ag) av.out (by simp));replace HK:=A0_ (KeepBut.trans (zKp HK) hk (.inl rfl));replace HB:=A0_ (hb);replace HI0:=A0_ (hi);(try clear hb);have gX:=aC.out;have gY:=ap.out;have gZ:=av.out;have g1:=au.out;have fI:=zc0 ag;have fJ:=zc1 ag;have fK:=kF ag.out 0;have fL:=kF ag.out 1;obtain⟨bK,ck,eU,_⟩:=Kd.Q_slice ab.out;subst eU;have dW:(1:Int)≤((aa.length:Int):Int):=zd;obtain⟨i095,df,_,hsz95,_⟩:=info_parts info3;have hcut95:=cut_from (P:=Try.prog) 23 3 .i64 Try.underlying23 df 1 hsz95 bK aa.length ck 1 (by omega) dW;have bL:=Kd.Q_drop (k:=(1:Int).toNat) ab.out (by omega);obtain⟨bj,hA95⟩ : ∃ A1,A1=(if ck=(1:Int).toNat then bK else (bK:Option Addr).map (·.add ((1:Int).toNat*1))):=⟨_,rfl⟩;obtain⟨bk,cT⟩ : ∃ c1,c1=ck - (1:Int).toNat:=⟨_,rfl⟩;have cU:aV.length=aa.length - (1:Int).toNat:=(by rw [de.out,List.length_drop]);rw [← de.out] at bL;rw [← cU,← hA95,← cT] at hcut95;replace bL:Kd.Q (Kd.int .i64) 3 w90 w.heap.size (fun k_=>some k_≠(u319001:Value).ownBlock) (.slice bj aV.length bk) aV:=(by rw [hA95,cT,cU];exact bL);have HE95:Aside0 ((Value.slice bj aV.length bk).ownBlock=(.slice bK aa.length ck:Value).ownBlock):=⟨by rw [hA95];split <;> (cases (bK:Option Addr) <;> rfl)⟩;clear cU df hsz95 ab hA95 cT;have el:=A0_ bL;clear bL;replace dW:=eq_true dW;have n_:=A0_ (rM (ok':=fun k_=>some k_≠(.slice bj aV.length bk:Value).ownBlock) ae.out (fun k_ hk=>(by rw [HE95.out];exact hk)));clear ae;have ae:=n_;clear n_;have g2:=az.out;have g3:=aq.out;have fM:=zc0 af;have fN:=zc1 af;have fO:=kF af.out 0;have fP:=kF af.out 1;obtain⟨cV,cW,eV⟩:=rS ae.out;subst eV))
        refine bodyPost_ret (results_cell_row rfl _ _ aj 25 #[.slice bj aV.length bk,.slice cV ac.length cW] (0,0) _ rfl (by refine zbp (cs := #[.slice bj aV.length bk,.slice none 0 0]) ?_ 1 _ rfl;refine zbp (cs := #[.slice none 0 0,.slice none 0 0]) ?_ 0 _ rfl;refine zbf ?_ _ (hp:=by exact ap.out);exact zK_ af) Try.underlying25 rfl (by kernel_rfl)) rfl ?_
        exact⟨_,_,by first|rfl|(simp [errW_none,errW_some] <;> rfl)|(simp only [← aX];first|rfl|(simp [errW_none,errW_some] <;> rfl))|(simp [*,errW_none,errW_some] <;> rfl),by(with_reducible repeat(first|apply Kd.Q_alloc|apply Kd.Q_drewN|apply Kd.Q_drew));exact Kd.Q_mono (Kd.Q_far (p:=⟨aj,1,none⟩) (Kd.Q_far (p:=⟨aj,0,none⟩) (Kd.Q_far (p:=⟨am,0,none⟩) (Kd.Q_types (Kd.Q_types el.out ag.out (by decide)) af.out (by decide)) (fun _ hk=>hk.1.2) (.slice bj aV.length bk)) (fun _ hk=>hk.2) (.slice bj aV.length bk)) (fun _ hk=>hk.2) (.slice cV ac.length cW)) (fun _ hk=>hk.1.1),by(with_reducible repeat(first|apply rA|apply rN|apply rD));exact rM (rF (p:=⟨aj,1,none⟩) (rF (p:=⟨aj,0,none⟩) (rF (p:=⟨am,0,none⟩) (rY (rY ae.out ag.out (by decide)) af.out (by decide)) (fun _ hk=>hk.1.2) (.slice bj aV.length bk)) (fun _ hk=>hk.2) (.slice bj aV.length bk)) (fun _ hk=>hk.2) (.slice cV ac.length cW)) (fun _ hk=>hk.1.1),zIs HI0,zBw HB,zKp HK⟩
       rw [if_neg bJ] at H
       have ej:(aD == 1)=false:=beq_eq_false_iff_ne.mpr bJ
       have ek:(aD != 1)=true:=bne_iff_ne.mpr bJ
       by_cases bM:aD=2
       ·rw [if_pos bM] at H
        have em:(aD == 2)=true:=beq_iff_eq.mpr bM
        have en:(aD != 2)=false:=bne_eq_false_iff_eq.mpr bM
        clear bM
        have dX:=zpc H;replace H:=zph H
        have fV:=dT dX
        have fW:decide (0<aa.length)=true:=dT (by omega)
        clear dX
        obtain⟨dY,cl⟩ : ∃ y_:List Int,y_=(aa.set (0:Int).toNat aw):=⟨_,rfl⟩
        replace H:(some (dY,ac,bc))=some (r1,r2,r3):=zH cl H
        have eo:=A0_ cl;clear cl;simp only [Option.some.injEq,Prod.mk.injEq] at H;obtain⟨rfl,rfl,rfl⟩:=H
        go_wp2_with (first|((with_reducible refine gC (f:=74) rfl ?_);refine zJ (some 97) Try.func74 #[.pointer (some ⟨g,0,none⟩),.int .i64 50] ?_;(with_reducible refine(s1a_.calls aZ g s0_0 ao 50 aD bc w0 _ ?ax ?ay dd.out).mono ?_);(case ax=>repeat(first|(with_reducible first|exact HI0.out|apply IsS82.alloc|apply IsS82.drewN|apply IsS82.drew|apply IsS82.set_1|refine IsS82.far ?_ aq.out _|refine IsS82.far ?_ au.out _)|exact HI0.out));(case ay=>repeat(first|(with_reducible first|exact HB.out|apply bA|apply bN|apply bD|refine bS ?_ (IsS82.ge HI0.out)|refine bS ?_ aN.out|refine bS ?_ bg.out)|exact HB.out));rintro e dZ ⟨rfl,hi,hb,hk⟩;refine⟨_,rfl,?_⟩;replace ab:=A0_ (Kd.Q_mono (Kd.Q_keep (IsS82.apartQ (show IsS82 w0 _ g s0_0 ao from zIs HI0) (zQ_ ab) (by decide)) hk (fun _ h=>h.2)) (fun _ h=>h.1));replace ae:=A0_ (rM (Kd.R_keep (IsS82.apart (show IsS82 w0 _ g s0_0 ao from zIs HI0) (zR_ ae) (by decide)) hk (fun _ h=>h.2)) (fun _ h=>h.1));replace af:=A0_ (KeepBut.blk hk (g':=aj) (o := .cells #[.slice none 0 0,.slice none 0 0] 25 (0,0)) (zK_ af) az.out (by simp));replace ag:=A0_ (KeepBut.blk hk (g':=am) (o := .cells #[u319000,u319001] 25 (0,0)) (zK_ ag) av.out (by simp));replace HK:=A0_ (KeepBut.trans (zKp HK) hk (.inl rfl));replace HB:=A0_ (hb);replace HI0:=A0_ (hi);(try clear hb);have fX:=aC.out;have fY:=ap.out;have fZ:=av.out;have f2:=au.out;have eW:=zc0 ag;have eX:=zc1 ag;have eY:=kF ag.out 0;have eZ:=kF ag.out 1;have cX:0≤(0:Int):=(by omega);have cY:(0:Int)<((aa.length:Int):Int):=zd;have qi101:(0<aa.length)=True:=eq_true (by omega);obtain⟨aT,oo101,aY,dg,dh,gl101,cl101,HG101⟩:=Kd.Q_form ab.out (by omega);(first|cases dg|(injection dg with ea_ en_ ec_;(first|subst ea_|(injection ea_ with ea_;subst ea_));subst ec_;clear en_));have GB101:=A0_ dh;have GG101:=A0_ HG101;clear dh gl101 HG101;obtain⟨bW,bX⟩:=Kd.Q_cell 0 ab.out (0:Int) cX cY;(try rw [show((0:Int)).toNat=0 from rfl] at bW);(try simp only [Nat.reduceMul,Nat.zero_mul,Nat.zero_add,Nat.add_zero,Nat.reduceAdd] at bW);(try rw [show((0:Int)).toNat=0 from rfl] at bX);(try simp only [Nat.reduceMul,Nat.zero_mul,Nat.zero_add,Nat.add_zero,Nat.reduceAdd] at bX);replace cX:=eq_true cX;replace cY:=eq_true cY;obtain⟨hy106_,hz106_⟩:=Kd.Q_cell 0 ab.out (0:Int) (by omega) (zd);(try simp only [Int.reduceToNat,Int.toNat_zero,Int.toNat_ofNat,Nat.reduceMul,Nat.zero_mul,Nat.zero_add,Nat.add_zero] at hy106_ hz106_);(try rw [show((0:Int)).toNat=0 from rfl] at hy106_);(try rw [show((0:Int)).toNat=0 from rfl] at hz106_);have HP106:=Kd.Q_putg ab.out (0:Int) (by omega) (by have h_:(0:Int)<((aa.length:Int):Int):=zd;first|exact h_|(have e_:=(Kd.Q_reads' ab.out).1;omega)|simpa using h_) aw)|((with_reducible refine gS (t:=3) (p:=114) rfl ?_);refine store_event (t:=3) (p:=114) (v := ?vo_w107) (w1:=(dZ.setCell ⟨aT,oo101,none⟩ (.int .i64 aw))) ?hg ?ho ?hn ?hr ?_;(case ho=>rfl);(case hg=>rfl);(case hn=>rfl);(case hr=>first|(go_simp;done)|(go_simp;rfl));intro cZ hw;have hg:dZ.grownBy cZ (some aT):=(by rw [hw];exact HP106.2);have hp_:Kd.Q (Kd.int .i64) 3 cZ w.heap.size (fun k_=>some k_≠(u319001:Value).ownBlock) (.slice (some ⟨aT,oo101,none⟩) aa.length aY) dY:=(by rw [hw,eo.out];exact HP106.1);clear HP106;replace ae:=A0_ (Kd.R_after (v:=(.slice (some ⟨aT,oo101,none⟩) aa.length aY)) (v1:=(.slice (some ⟨aT,oo101,none⟩) aa.length aY)) (ok:=(fun _=>True)) (zmR ae (fun _ hk=>⟨trivial,hk⟩)) hg (.inl rfl));replace af:=A0_ (blk_grown (g:=aj) (o := .cells #[.slice none 0 0,.slice none 0 0] 25 (0,0)) (zK_ af) hg (Kd.Q_ne ab.out af.out (by decide)));replace ag:=A0_ (blk_grown (g:=am) (o := .cells #[.slice (some ⟨aT,oo101,none⟩) aa.length aY,u319001] 25 (0,0)) (zK_ ag) hg (Kd.Q_ne ab.out ag.out (by decide)));replace HI0:=A0_ (IsS82.grown (zIs HI0) hg (IsS82.own_neQ HI0.out ab.out (by decide)));replace HB:=A0_ ((by rw [hw];exact bS (HB.out) (Nat.le_trans HL.out GB101.out):Below w0.heap.size w0 cZ));replace HK:=A0_ (KeepBut.trans (zKp HK) (KeepBut.of_grown hg g) (Kd.Q_base2 ab.out));replace ab:=A0_ (hp_);clear hg hw hp_;have e2:=zc0 ag;have e3:=zc1 ag;have e4:=kF ag.out 0;have e5:=kF ag.out 1;have f3:=az.out;have f4:=aq.out;have e6:=zc0 af;have e7:=zc1 af;have e8:=kF af.out 0;have e9:=kF af.out 1;obtain⟨cm,cn,ep⟩:=rS ae.out;subst ep))
        refine bodyPost_ret (results_cell_row rfl _ _ aj 25 #[.slice (some ⟨aT,oo101,none⟩) aa.length aY,.slice cm ac.length cn] (0,0) _ rfl (by refine zbp (cs := #[.slice (some ⟨aT,oo101,none⟩) aa.length aY,.slice none 0 0]) ?_ 1 _ rfl;refine zbp (cs := #[.slice none 0 0,.slice none 0 0]) ?_ 0 _ rfl;exact zK_ af) Try.underlying25 rfl (by kernel_rfl)) rfl ?_
        exact⟨_,_,by first|rfl|(simp [errW_none,errW_some] <;> rfl)|(simp only [← aX];first|rfl|(simp [errW_none,errW_some] <;> rfl))|(simp [*,errW_none,errW_some] <;> rfl),by(with_reducible repeat(first|apply Kd.Q_alloc|apply Kd.Q_drewN|apply Kd.Q_drew));exact Kd.Q_mono (Kd.Q_far (p:=⟨aj,1,none⟩) (Kd.Q_far (p:=⟨aj,0,none⟩) (Kd.Q_types ab.out af.out (by decide)) (fun _ hk=>hk.2) (.slice (some ⟨aT,oo101,none⟩) aa.length aY)) (fun _ hk=>hk.2) (.slice cm ac.length cn)) (fun _ hk=>hk.1),by(with_reducible repeat(first|apply rA|apply rN|apply rD));exact rM (rF (p:=⟨aj,1,none⟩) (rF (p:=⟨aj,0,none⟩) (rY ae.out af.out (by decide)) (fun _ hk=>hk.2) (.slice (some ⟨aT,oo101,none⟩) aa.length aY)) (fun _ hk=>hk.2) (.slice cm ac.length cn)) (fun _ hk=>hk.1.2),zIs HI0,zBw HB,zKp HK⟩
       rw [if_neg bM] at H
       have em:(aD == 2)=false:=beq_eq_false_iff_ne.mpr bM
       have en:(aD != 2)=true:=bne_iff_ne.mpr bM
       simp only [Option.some.injEq,Prod.mk.injEq] at H;obtain⟨rfl,rfl,rfl⟩:=H
       go_wp2_with (first|((with_reducible refine gC (f:=74) rfl ?_);refine zJ (some 97) Try.func74 #[.pointer (some ⟨g,0,none⟩),.int .i64 50] ?_;(with_reducible refine(s1a_.calls aZ g s0_0 ao 50 aD bc w0 _ ?ax ?ay dd.out).mono ?_);(case ax=>repeat(first|(with_reducible first|exact HI0.out|apply IsS82.alloc|apply IsS82.drewN|apply IsS82.drew|apply IsS82.set_1|refine IsS82.far ?_ aq.out _|refine IsS82.far ?_ au.out _)|exact HI0.out));(case ay=>repeat(first|(with_reducible first|exact HB.out|apply bA|apply bN|apply bD|refine bS ?_ (IsS82.ge HI0.out)|refine bS ?_ aN.out|refine bS ?_ bg.out)|exact HB.out));rintro e hv ⟨rfl,hi,hb,hk⟩;refine⟨_,rfl,?_⟩;replace ab:=A0_ (Kd.Q_mono (Kd.Q_keep (IsS82.apartQ (show IsS82 w0 _ g s0_0 ao from zIs HI0) (zQ_ ab) (by decide)) hk (fun _ h=>h.2)) (fun _ h=>h.1));replace ae:=A0_ (rM (Kd.R_keep (IsS82.apart (show IsS82 w0 _ g s0_0 ao from zIs HI0) (zR_ ae) (by decide)) hk (fun _ h=>h.2)) (fun _ h=>h.1));replace af:=A0_ (KeepBut.blk hk (g':=aj) (o := .cells #[.slice none 0 0,.slice none 0 0] 25 (0,0)) (zK_ af) az.out (by simp));replace ag:=A0_ (KeepBut.blk hk (g':=am) (o := .cells #[u319000,u319001] 25 (0,0)) (zK_ ag) av.out (by simp));replace HK:=A0_ (KeepBut.trans (zKp HK) hk (.inl rfl));replace HB:=A0_ (hb);replace HI0:=A0_ (hi);(try clear hb);have f5:=aC.out;have f6:=ap.out;have f8:=av.out;have f9:=au.out;have fa:=zc0 ag;have fb:=zc1 ag;have fc:=kF ag.out 0;have fd:=kF ag.out 1;obtain⟨bz,bB,eq,_⟩:=Kd.Q_slice ab.out;subst eq;have ga:=az.out;have gb:=aq.out;have fe:=zc0 af;have ff:=zc1 af;have fg:=kF af.out 0;have fh:=kF af.out 1;obtain⟨co,cp,er⟩:=rS ae.out;subst er))
       refine bodyPost_ret (results_cell_row rfl _ _ aj 25 #[.slice bz aa.length bB,.slice co ac.length cp] (0,0) _ rfl (by refine zbp (cs := #[.slice bz aa.length bB,.slice none 0 0]) ?_ 1 _ rfl;refine zbp (cs := #[.slice none 0 0,.slice none 0 0]) ?_ 0 _ rfl;exact zK_ af) Try.underlying25 rfl (by kernel_rfl)) rfl ?_
       exact⟨_,_,by first|rfl|(simp [errW_none,errW_some] <;> rfl)|(simp only [← aX];first|rfl|(simp [errW_none,errW_some] <;> rfl))|(simp [*,errW_none,errW_some] <;> rfl),by(with_reducible repeat(first|apply Kd.Q_alloc|apply Kd.Q_drewN|apply Kd.Q_drew));exact Kd.Q_mono (Kd.Q_far (p:=⟨aj,1,none⟩) (Kd.Q_far (p:=⟨aj,0,none⟩) (Kd.Q_types ab.out af.out (by decide)) (fun _ hk=>hk.2) (.slice bz aa.length bB)) (fun _ hk=>hk.2) (.slice co ac.length cp)) (fun _ hk=>hk.1),zF ae af (.slice bz aa.length bB) (.slice co ac.length cp) 0 1,zIs HI0,zBw HB,zKp HK⟩
end Go.Proofs.Ytmegggomhjgehaa.PFnCoverConj
