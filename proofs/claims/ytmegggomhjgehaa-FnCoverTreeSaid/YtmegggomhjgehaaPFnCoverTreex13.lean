import Derived.Test.YtmegggomhjgehaaPFnCoverTreex12
namespace Go.Proofs.Ytmegggomhjgehaa.PFnCoverTree
open Go.RowKit Go.Proofs.YtmegggomhjgehaaW.PrintWords Go.Proofs.YtmegggomhjgehaaW.PrintLast Go.Proofs.YtmegggomhjgehaaW.PrintMore
set_option maxHeartbeats 8000000
set_option maxRecDepth 100000
attribute [local go_sem] max2_int min2_int max_two min_two max_three min_three max_four min_four
set_option linter.unusedVariables false
set_option linter.unusedSimpArgs false
mutual
def s1f_.l0:Nat→Int→List Int→List Int→Int→List Int→Int→Option (List Int×List Int×Int)
  | 0,_,_,_,_,_,_=>none
  | k+1,x5,x6,x7,x8,aa,ab=>if (wrap64 (x8+1))<x5 then (if 0≤x8 then (if x8<(x6.length:Int) then (if 0≤(wrap64 (x8+1)) then (if (wrap64 (x8+1))<(x6.length:Int) then (if 0≤(rd x6 x8) then (if (rd x6 x8)<(x7.length:Int) then (if 0≤(rd x6 (wrap64 (x8+1))) then (if (rd x6 (wrap64 (x8+1)))<(x7.length:Int) then (s1f_.l0 k x5 x6 ((x7.set ((rd x6 x8):Int).toNat (rd x6 (wrap64 (x8+1)))).set ((rd x6 (wrap64 (x8+1))):Int).toNat (rd x6 x8)) (wrap64 (x8+2)) aa ab) else (none)) else (none)) else (none)) else (none)) else (none)) else (none)) else (none)) else (none)) else ((s1g_.f k aa ab x5).bind fun ac=>(s1f_.l1 k x5 0 aa ac.2 ac.1 x7))
def s1f_.l1:Nat→Int→Int→List Int→Int→List Int→List Int→Option (List Int×List Int×Int)
  | 0,_,_,_,_,_,_=>none
  | k+1,x5,af,ac,ae,aa,ab=>if af<x5 then ((sx_.f k aa ab).bind fun ag=>(s1f_.j2 k x5 af (!ag) ac ae aa ab)) else (s1f_.j2 k x5 af false ac ae aa ab)
def s1f_.j2:Nat→Int→Int→Bool→List Int→Int→List Int→List Int→Option (List Int×List Int×Int)
  | 0,_,_,_,_,_,_,_=>none
  | k+1,x5,ah,ai,ae,af,aa,ab=>if ai=true then ((s14_.f k aa ab).bind fun ag=>(s1f_.l2 k x5 ah ag 0 ae af aa ab)) else ((s1a_.f k ae af 50).bind fun ac=>(if ac.1=0 then (if 0<(ab.length:Int) then (some (aa,(ab.set (0:Int).toNat 0),ac.2)) else (none)) else (if ac.1=1 then (if 1≤(aa.length:Int) then (some ((aa.drop (1:Int).toNat),ab,ac.2)) else (none)) else (if ac.1=2 then (if 0<(aa.length:Int) then (some ((aa.set (0:Int).toNat x5),ab,ac.2)) else (none)) else (some (aa,ab,ac.2))))))
def s1f_.l2:Nat→Int→Int→List Int→Int→List Int→Int→List Int→List Int→Option (List Int×List Int×Int)
  | 0,_,_,_,_,_,_,_,_=>none
  | k+1,x5,ah,ag,ab,ae,af,aa,ac=>if 0≤ab then (if ab<(ag.length:Int) then (if (rd ag ab)=0 then (s1f_.l2 k x5 ah ag (wrap64 (ab+1)) ae af aa ac) else (if 0<(aa.length:Int) then (if ab<(aa.length:Int) then (s1f_.l1 k x5 (wrap64 (ah+1)) ae af ((aa.set (0:Int).toNat (rd aa ab)).set (ab:Int).toNat (rd aa 0)) ac) else (none)) else (none))) else (none)) else (none)
end
def s1f_.f (k:Nat) (s0_0:List Int) (s0_1:Int) (a1:Int):Option (List Int×List Int×Int):=(s1a_.f k s0_0 s0_1 a1).bind fun aa=>((s1g_.f k s0_0 aa.2 (wrap64 (2*(wrap64 (1+aa.1))))).bind fun ab=>(if 0≤(wrap64 (2*(wrap64 (1+aa.1)))) then (if (wrap64 (2*(wrap64 (1+aa.1))):Int).toNat≤35184372088832 then (s1f_.l0 k (wrap64 (2*(wrap64 (1+aa.1)))) ab.1 (List.replicate (wrap64 (2*(wrap64 (1+aa.1))):Int).toNat 0) 0 s0_0 ab.2) else (none)) else (none)))
def s1f_.T7:Bool×List (List Nat×List Nat):=(true,[([],[]),([],[]),([],[]),([1,2],[1,2]),([3],[3]),([],[]),([],[]),([6],[6]),([5,7],[5,7]),([8],[8]),([0,4,0,1,2,3,4,5,6,7,8,9],[0,4]),([10,9,0,1,2,3,4,5,6,7,8,9],[9,10])])
def s1f_.B7:List Nat := [0,0,0,6,14,0,0,64,224,480,1023,2047]
theorem s1f_.tab7:rtab .any (opsOf Try.f75 7)=s1f_.T7:=by kernel_rfl
theorem s1f_.bits7:waitsOk s1f_.T7.2 s1f_.B7=true:=by kernel_rfl
def s1f_.T8:Bool×List (List Nat×List Nat):=(true,[([],[]),([],[]),([],[]),([2],[2]),([1,3],[1,3]),([4],[4]),([],[]),([],[]),([6,7],[6,7]),([8],[8]),([0,5,0,1,2,3,4,5,6,7,8,9],[0,5]),([10,9,0,1,2,3,4,5,6,7,8,9],[9,10])])
def s1f_.B8:List Nat := [0,0,0,4,14,30,0,0,192,448,1023,2047]
theorem s1f_.tab8:rtab .any (opsOf Try.f75 8)=s1f_.T8:=by kernel_rfl
theorem s1f_.bits8:waitsOk s1f_.T8.2 s1f_.B8=true:=by kernel_rfl
def s1f_.T18:Bool×List (List Nat×List Nat):=(true,[([],[]),([0],[0]),([],[]),([2],[2]),([],[]),([3,4],[3,4]),([5],[5]),([1,0,1,2,3,4,5,6],[1]),([7,6,0,1,2,3,4,5,6],[6,7])])
def s1f_.B18:List Nat := [0,1,0,4,0,28,60,127,255]
theorem s1f_.tab18:rtab .any (opsOf Try.f75 18)=s1f_.T18:=by kernel_rfl
theorem s1f_.bits18:waitsOk s1f_.T18.2 s1f_.B18=true:=by kernel_rfl
theorem s1f_.calls (k:Nat) (g:Nat) (s0_0:List Int) (s0_1:Int) (a1:Int) (r1:List Int) (r2:List Int) (r3:Int) (w0 w:World) (hI:IsS82 w0 w g s0_0 s0_1) (hB:Below w0.heap.size w0 w) (h:s1f_.f k s0_0 s0_1 a1=some (r1,r2,r3)) :
    Calls Try.prog 75 #[.pointer (some ⟨g,0,none⟩),.int .i64 a1] w fun e w' => ∃ v0_ v1_:Value,e = .returned (.agg #[v0_,v1_])∧Kd.Q (Kd.int .i64) 3 w' w.heap.size (fun k_=>some k_≠(v1_:Value).ownBlock) v0_ r1∧Kd.R (Kd.int .i64) 3 w' w.heap.size (fun k_=>some k_≠(v0_:Value).ownBlock) v1_ r2∧IsS82 w0 w' g s0_0 r3∧Below w0.heap.size w0 w'∧KeepBut w w' g none:=by
 have g2:=Try.underlying25;have HI0:=A0_ hI
 have HK:=A0_ (KeepBut.refl w g none)
 have HL:=A0_ hB.size;clear hI;have HW0:=A0_ hB.size;have HB:=A0_ hB;clear hB
 have H:((s1a_.f k s0_0 s0_1 a1).bind fun a6=>((s1g_.f k s0_0 a6.2 (wrap64 (2*(wrap64 (1+a6.1))))).bind fun cZ=>(if 0≤(wrap64 (2*(wrap64 (1+a6.1)))) then (if (wrap64 (2*(wrap64 (1+a6.1))):Int).toNat≤35184372088832 then (s1f_.l0 k (wrap64 (2*(wrap64 (1+a6.1)))) cZ.1 (List.replicate (wrap64 (2*(wrap64 (1+a6.1))):Int).toNat 0) 0 s0_0 cZ.2) else (none)) else (none))))=some (r1,r2,r3):=h
 clear h;obtain⟨⟨ct,dm⟩,A3,H⟩:=zbind H;dsimp only at H;obtain⟨⟨ah,aU⟩,A4,H⟩:=zbind H;dsimp only at H
 obtain⟨aw,aX⟩ : ∃ j_:Int,(wrap64 (2*(wrap64 (1+ct))))=j_:=⟨_,rfl⟩
 replace H:(if 0≤(aw) then (if (aw:Int).toNat≤35184372088832 then (s1f_.l0 k aw ah (List.replicate (aw:Int).toNat 0) 0 s0_0 aU) else (none)) else (none))=some (r1,r2,r3):=by first|(rw [aX] at H;exact H)|(simp only [aX] at H ⊢;exact H)
 (try rw [aX] at A3)
 (try rw [aX] at A4)
 have hji5w:(IntKind.i64.wrap (2*(wrap64 (1+ct))))=aw:=(i64_w _).trans aX
 have c6:=zpc H;replace H:=zph H
 have bX:=eq_true c6;have bY:=dT c6;clear c6
 have c7:=zpc H;replace H:=zph H
 have b2:=eq_true c7;have b3:=dT c7;clear c7
 obtain⟨dn,b4⟩ : ∃ y_:List Int,y_=(List.replicate (aw:Int).toNat 0):=⟨_,rfl⟩
 replace H:(s1f_.l0 k aw ah dn 0 s0_0 aU)=some (r1,r2,r3):=zH b4 H
 have da:=A0_ b4;clear b4;have H':=A0_ H;clear H
 go_enter Try.func75,Try.ntmps75
 go_wp2_with (first|((with_reducible refine gD (N:=4) rfl ?_);refine zX (N:=4) (cs := #[.slice none 0 0,.slice none 0 0]) (t:=25) ?_;intro aj hg w8 hbox hb;replace HB:=A0_ (bT (zBw HB) hb);have af:=A0_ (hbox);have b5:=A0_ ((by rw [hg];exact(keep_size (w:=w) (g:=g) (row:=none) (zKp HK)):w.heap.size≤aj));have aN:=A0_ ((Nat.le_trans HW0.out (by rw [hg];exact(keep_size (w:=w) (g:=g) (row:=none) (zKp HK)):w.heap.size≤aj):w0.heap.size≤aj));replace HK:=A0_ (KeepBut.trans (zKp HK) (KeepBut.of_below hb g none) (.inl rfl));have aq:=A0_ ((by rw [hg];exact Nat.ne_of_lt (IsS82.lt (show IsS82 w0 _ g s0_0 s0_1 from zIs HI0)):g≠aj));have az:=A0_ ((by rw [hg];exact Nat.ne_of_gt (IsS82.lt (show IsS82 w0 _ g s0_0 s0_1 from zIs HI0)):aj≠g));replace HI0:=A0_ (IsS82.below (zIs HI0) hb);clear hb hbox hg)|((with_reducible refine gC (f:=74) rfl ?_);refine zJ (some 16) Try.func74 #[.pointer (some ⟨g,0,none⟩),.int .i64 a1] ?_;(with_reducible refine(s1a_.calls k g s0_0 s0_1 a1 ct dm w0 _ ?ax ?ay A3.out).mono ?_);(case ax=>repeat(first|(with_reducible first|exact HI0.out|apply IsS82.alloc|apply IsS82.drewN|apply IsS82.drew|apply IsS82.set_1|refine IsS82.far ?_ aq.out _)|exact HI0.out));(case ay=>repeat(first|(with_reducible first|exact HB.out|apply bA|apply bN|apply bD|refine bS ?_ (IsS82.ge HI0.out)|refine bS ?_ aN.out)|exact HB.out));rintro e w9 ⟨rfl,hi,hb,hk⟩;refine⟨_,rfl,?_⟩;replace af:=A0_ (KeepBut.blk hk (g':=aj) (o := .cells #[.slice none 0 0,.slice none 0 0] 25 (0,0)) (zK_ af) az.out (by simp));replace HK:=A0_ (KeepBut.trans (zKp HK) hk (.inl rfl));replace HB:=A0_ (hb);replace HI0:=A0_ (hi);(try clear hb))|((with_reducible refine gC (f:=87) rfl ?_);refine goesL_ (some 21) rfl rfl Try.func87 (by kernel_rfl) rfl #[.pointer (some ⟨g,0,none⟩),.int .i64 aw] rfl (by(try simp only [List.map_toArray,List.map_cons,List.map_nil]);first|done|(simp only [aX];rfl)|rfl|(simp only [List.length_drop,List.length_take];rfl)) ?_;(with_reducible refine(s1g_.calls k g s0_0 dm aw ah aU w0 _ ?ax ?ay A4.out).mono ?_);(case ax=>repeat(first|(with_reducible first|exact HI0.out|apply IsS82.alloc|apply IsS82.drewN|apply IsS82.drew|apply IsS82.set_1|refine IsS82.far ?_ aq.out _)|exact HI0.out));(case ay=>repeat(first|(with_reducible first|exact HB.out|apply bA|apply bN|apply bD|refine bS ?_ (IsS82.ge HI0.out)|refine bS ?_ aN.out)|exact HB.out));rintro e w10 ⟨dp,rfl,a5,hi,hb,hk⟩;refine⟨_,rfl,?_⟩;replace af:=A0_ (KeepBut.blk hk (g':=aj) (o := .cells #[.slice none 0 0,.slice none 0 0] 25 (0,0)) (zK_ af) az.out (by simp));have bu:=A0_ (rL a5 (keep_size (w:=w) (g:=g) (row:=none) (zKp HK)));replace HK:=A0_ (KeepBut.trans (zKp HK) hk (.inl rfl));replace HB:=A0_ (hb);replace HI0:=A0_ (hi);(try clear hb);(try clear a5))|((with_reducible refine gD (N:=23) rfl ?_);refine Kd.R_make (Kd.int .i64) _ 3 rfl (N:=23) rfl 23 _ _ rfl aw rfl rfl Try.underlying23 (.int .i64 0) 8 info3 rfl (by decide) (by omega) 0 (ok:=fun _=>True) (okp:=fun _=>True) rfl (fun _ hk=>hk) trivial (zd) (Nat.le_trans (Nat.mul_le_mul_right _ (zd:aw.toNat≤35184372088832)) (by omega)) (Below.refl _ _) (Nat.le_refl _) ?_;intro dq w11 bk hb hg_ hnew_;clear hg_ hnew_;(first|rw [← da.out] at bk|(simp only [Int.reduceToNat] at bk;rw [← da.out] at bk));have dZ:=A0_ (rL (Kd.R_new' bk (rX (zR_ bu))) (keep_size (w:=w) (g:=g) (row:=none) (zKp HK)));replace bu:=A0_ (Kd.R_elder' (zR_ bu) (Kd.R_base bk) hb);replace af:=zK af hb;replace HK:=A0_ (KeepBut.trans (zKp HK) (KeepBut.of_below hb g none) (.inl rfl));replace HB:=A0_ (bT (zBw HB) hb);replace HI0:=A0_ (IsS82.below (zIs HI0) hb);clear hb bk))
 go_loopg [8] k (fun kq v8 w' => ∃ (aI:List Int) (ak:Int),v8 = .int .i64 ak∧Aside0 (s1f_.l0 kq aw ah aI ak s0_0 aU=some (r1,r2,r3))∧Aside0 (kq≤k)∧Aside0 (Kd.R (Kd.int .i64) 3 w' w.heap.size (fun k_=>some k_≠(dq:Value).ownBlock) dp ah)∧Aside0 (Kd.R (Kd.int .i64) 3 w' w.heap.size (fun k_=>some k_≠(dp:Value).ownBlock) dq aI)∧Aside0 (w'.heap[aj]? = some (.cells #[(.slice none 0 0),(.slice none 0 0)] 25 (0,0)))∧Aside0 (IsS82 w0 w' g s0_0 aU)∧Aside0 (KeepBut w w' g none)∧Aside0 (Below w0.heap.size w0 w'))
 case atStart=>exact⟨(dn),(0),zt,H',⟨Nat.le_refl _⟩,⟨zmR bu (fun _ hk=>hk.2)⟩,⟨zmR dZ (fun _ hk=>hk.2)⟩,⟨zK_ af⟩,⟨zIs HI0⟩,⟨zKp HK⟩,⟨zBw HB⟩⟩
 case round =>
  clear H';(try clear c6);(try clear bX);(try clear bY);(try clear c7);(try clear b2);(try clear b3);obtain⟨aI,ak,rfl,HA,br,aA,ar,af,HI0,HK,HB⟩:=hrel
  cases gk with
  | zero=>exact absurd HA.out (by simp [s1f_.l0])
  | succ k1 =>
   have H:=HA.out;clear HA;simp only [s1f_.l0] at H
   by_cases bd:(wrap64 (ak+1))<aw
   ·rw [if_pos bd] at H
    have be:=dT bd;clear bd
    have er:=zpc H;replace H:=zph H
    have ga:=dT er;clear er
    have es:=zpc H;replace H:=zph H
    have gb:=dT es;clear es
    obtain⟨al,bv⟩ : ∃ j_:Int,(wrap64 (ak+1))=j_:=⟨_,rfl⟩
    replace H:(if 0≤(al) then (if (al)<(ah.length:Int) then (if 0≤(rd ah ak) then (if (rd ah ak)<(aI.length:Int) then (if 0≤(rd ah (al)) then (if (rd ah (al))<(aI.length:Int) then (s1f_.l0 k1 aw ah ((aI.set ((rd ah ak):Int).toNat (rd ah (al))).set ((rd ah (al)):Int).toNat (rd ah ak)) (wrap64 (ak+2)) s0_0 aU) else (none)) else (none)) else (none)) else (none)) else (none)) else (none))=some (r1,r2,r3):=by first|(rw [bv] at H;exact H)|(simp only [bv] at H ⊢;exact H)
    (try rw [bv] at be)
    have hji16w:(IntKind.i64.wrap (ak+1))=al:=(i64_w _).trans bv
    have et:=zpc H;replace H:=zph H
    have gc:=dT et;clear et
    have eu:=zpc H;replace H:=zph H
    have gd:=dT eu;clear eu
    have ev:=zpc H;replace H:=zph H
    have gf:=dT ev;clear ev
    have ew:=zpc H;replace H:=zph H
    have gg:=dT ew;clear ew
    obtain⟨cu,b6⟩ : ∃ y_:List Int,y_=(aI.set ((rd ah ak):Int).toNat (rd ah (al))):=⟨_,rfl⟩
    replace H:(if 0≤(rd ah (al)) then (if (rd ah (al))<(aI.length:Int) then (s1f_.l0 k1 aw ah (cu.set ((rd ah (al)):Int).toNat (rd ah ak)) (wrap64 (ak+2)) s0_0 aU) else (none)) else (none))=some (r1,r2,r3):=zH b6 H
    have d0:=A0_ b6;clear b6
    have ex:=zpc H;replace H:=zph H
    have gh:=dT ex;clear ex
    have ey:=zpc H;replace H:=zph H
    have gi:=dT ey;clear ey
    obtain⟨dr,b7⟩ : ∃ y_:List Int,y_=(cu.set ((rd ah (al)):Int).toNat (rd ah ak)):=⟨_,rfl⟩
    replace H:(s1f_.l0 k1 aw ah dr (wrap64 (ak+2)) s0_0 aU)=some (r1,r2,r3):=zH b7 H
    have d3:=A0_ b7;clear b7;have H':=A0_ H;clear H
    try go_wp2
    replace aA:=A0_ (rD aA.out)
    replace ar:=A0_ (rD ar.out)
    replace af:=A0_ (kD af.out)
    replace HI0:=A0_ (IsS82.drew HI0.out)
    replace HK:=A0_ (keep_drew HK.out)
    replace HB:=A0_ (bD HB.out)
    obtain⟨g3,dt,du⟩:=rS aA.out
    (first|subst du|(injection du with f1_ f2_ f3_;have f4_:=f1_.symm;have f5_:=f3_.symm;clear f1_ f2_ f3_;subst f4_;subst f5_))
    have cv:0≤(ak:Int):=zd
    have cw:ak<(ah.length:Int):=zd
    obtain⟨aW,eE,bM⟩:=tI (rR aA.out).2.2 ak cv cw
    cases eE
    replace cv:=eq_true cv;replace cw:=eq_true cw
    have cx:0≤((al):Int):=zd
    have cy:(al)<(ah.length:Int):=zd
    obtain⟨d4,eF,bO⟩:=tI (rR aA.out).2.2 (al) cx cy
    obtain rfl:aW=d4:=(by injection eF)
    replace cx:=eq_true cx;replace cy:=eq_true cy
    have dv:0≤((rd ah ak):Int):=zd
    have dw:((rd ah ak):Int)<((aI.length:Int):Int):=zd
    obtain⟨aJ,dx,dy,dz,gl21,cl21,HG21⟩:=Kd.R_form ar.out (by omega)
    (first|cases dy|(injection dy with ea_ en_ ec_;(first|subst ea_|(injection ea_ with ea_;subst ea_));subst ec_;clear en_))
    have GB21:=A0_ dz;have GG21:=A0_ HG21;clear dz gl21 HG21
    obtain⟨dA,dB⟩:=Kd.R_celln 0 ar.out ((rd ah ak):Int) dv dw
    replace dv:=eq_true dv;replace dw:=eq_true dw
    have HN0_go21:=A0_ (show g≠aJ from by have h_:=IsS82.own_ne HI0.out ar.out (by decide);intro e_;exact h_ (by rw [e_];rfl))
    have HP27:=Kd.R_putn ar.out ((rd ah ak):Int) (rd ah (al))
    rw [← d0.out] at HP27
    have HQ27:=A0_ HP27;clear HP27
    refine start_ (n:=12) (S:=fun w'=>w'.cell? (aW.add (ak).toNat)=some (.int .i64 (rd ah ak))∧w'.cell? (aW.add ((al)).toNat)=some (.int .i64 (rd ah (al)))) (ds := [11]) (bs 12 0) (by kernel_rfl) rfl rfl ⟨bM,bO⟩ (fun hHeld => ?_);refine with_tabW s1f_.tab7 s1f_.bits7 (fun HT_ HW_ => ?_)
    generalize wr.drew=w25 at aA ar af HI0 HK HB GG21 HQ27 dB dA bM bO hHeld ⊢
    refine zP 0 (some 30) (bs 12 1) ?_
    refine zP 1 (some 31) (bs 12 3) ?_
    refine zP 2 (some 32) (bs 12 7) ?_
    refine zP 3 (some 33) (bs 12 15) ?_
    refine zP 5 (some 35) (bs 12 47) ?_
    refine zP 6 (some 36) (bs 12 111) ?_
    refine zP 7 (some 37) (bs 12 239) ?_
    refine zP 8 (some 38) (bs 12 495) ?_
    refine zT 4 (some 34) (bs 12 511) hHeld ?_
    refine zT 9 (some 39) (bs 12 1023) hHeld ?_
    refine zP 10 (some 40) (bs 12 2047) ?_
    refine last_ (i:=11) (N:=none) (bs 12 4095) rfl rfl (one_of HT_.out (by kernel_rfl)) (by decide) (fun K hK => ?_)
    refine skip_ (w1 := ?_) (by rfl) rfl ?_ ?_
    rotate_left
    ·go_simp
     rfl
    refine hK.out _ _ ?_
    clear hK K
    refine done_ (done_of HT_.out (by kernel_rfl)) ?_
    try go_wp2
    have n0_:Aside0 (Kd.R (Kd.int .i64) 3 (w25.setCell ⟨aJ,((rd ah ak):Int).toNat,none⟩ (.int .i64 (rd ah (al)))) w.heap.size (fun k_=>some k_≠(.slice (some ⟨aJ,0,none⟩) aI.length dx:Value).ownBlock) (.slice (some aW) ah.length dt) ah):=⟨by(with_reducible repeat(first|apply rA|apply rN|apply rD));exact rM (rF (p:=⟨aJ,((rd ah ak):Int).toNat,none⟩) (rM aA.out (fun k_ hk=>(⟨hk,fun e_=>hk (by rw [e_];rfl)⟩:_∧k_≠aJ))) (fun _ hk=>hk.2) (.int .i64 (rd ah (al)))) (fun _ hk=>hk.1)⟩
    have n1_:Aside0 (Kd.R (Kd.int .i64) 3 (w25.setCell ⟨aJ,((rd ah ak):Int).toNat,none⟩ (.int .i64 (rd ah (al)))) w.heap.size (fun k_=>some k_≠(.slice (some aW) ah.length dt:Value).ownBlock) (.slice (some ⟨aJ,0,none⟩) aI.length dx) cu):=⟨zR_ HQ27⟩
    have n2_:Aside0 ((w25.setCell ⟨aJ,((rd ah ak):Int).toNat,none⟩ (.int .i64 (rd ah (al)))).heap[aj]? = some (.cells #[.slice none 0 0,.slice none 0 0] 25 (0,0))):=⟨by refine zbf ?_ _ (hp:=by have h_:=Kd.R_ne ar.out af.out (by decide);intro e_;exact h_ (by rw [e_];rfl));exact zK_ af⟩
    have n3_:Aside0 (IsS82 w0 (w25.setCell ⟨aJ,((rd ah ak):Int).toNat,none⟩ (.int .i64 (rd ah (al)))) g s0_0 aU):=⟨by repeat(first|(with_reducible first|exact HI0.out|apply IsS82.alloc|apply IsS82.drewN|apply IsS82.drew|apply IsS82.set_1|refine IsS82.far ?_ HN0_go21.out _|refine IsS82.far ?_ aq.out _)|exact HI0.out)⟩
    have n4_:Aside0 (KeepBut w (w25.setCell ⟨aJ,((rd ah ak):Int).toNat,none⟩ (.int .i64 (rd ah (al)))) g none):=⟨by repeat(first|(with_reducible first|exact HK.out|apply KeepBut.set_|apply keep_drewN|apply keep_drew|apply keep_alloc|refine keep_far ?_ GB21.out _|refine keep_far ?_ b5.out _)|exact HK.out)⟩
    have n5_:Aside0 (Below w0.heap.size w0 (w25.setCell ⟨aJ,((rd ah ak):Int).toNat,none⟩ (.int .i64 (rd ah (al))))):=⟨by repeat(first|(with_reducible first|exact HB.out|apply bA|apply bN|apply bD|refine bS ?_ (Nat.le_trans HL.out GB21.out)|refine bS ?_ (IsS82.ge HI0.out)|refine bS ?_ aN.out)|exact HB.out)⟩
    (try clear aA);(try clear ar);(try clear af);(try clear HI0);(try clear HK);(try clear HB)
    generalize (w25.setCell ⟨aJ,((rd ah ak):Int).toNat,none⟩ (.int .i64 (rd ah (al))))=w28 at n0_ n1_ n2_ n3_ n4_ n5_ ⊢
    have aA:=n0_;have ar:=n1_;have af:=n2_;have HI0:=n3_;have HK:=n4_;have HB:=n5_;clear n0_ n1_ n2_ n3_ n4_ n5_
    replace aA:=A0_ (rD aA.out)
    replace ar:=A0_ (rD ar.out)
    replace af:=A0_ (kD af.out)
    replace HI0:=A0_ (IsS82.drew HI0.out)
    replace HK:=A0_ (keep_drew HK.out)
    replace HB:=A0_ (bD HB.out)
    have cz:0≤((al):Int):=zd
    have cC:(al)<(ah.length:Int):=zd
    obtain⟨d5,eG,bP⟩:=tI (rR aA.out).2.2 (al) cz cC
    obtain rfl:aW=d5:=(by injection eG)
    replace cz:=eq_true cz;replace cC:=eq_true cC
    have cE:0≤(ak:Int):=zd
    have cF:ak<(ah.length:Int):=zd
    obtain⟨d6,eH,bQ⟩:=tI (rR aA.out).2.2 ak cE cF
    obtain rfl:aW=d6:=(by injection eH)
    replace cE:=eq_true cE;replace cF:=eq_true cF
    have dC:0≤((rd ah (al)):Int):=zd
    have dD:((rd ah (al)):Int)<((aI.length:Int):Int):=zd
    obtain⟨dE,dG⟩:=Kd.R_celln 0 ar.out ((rd ah (al)):Int) dC dD
    replace dC:=eq_true dC;replace dD:=eq_true dD
    have HN0_go21:=A0_ (show g≠aJ from by have h_:=IsS82.own_ne HI0.out ar.out (by decide);intro e_;exact h_ (by rw [e_];rfl))
    have HP30:=Kd.R_putn ar.out ((rd ah (al)):Int) (rd ah ak)
    rw [← d3.out] at HP30
    have HQ30:=A0_ HP30;clear HP30
    refine start_ (n:=12) (S:=fun w'=>w'.cell? (aW.add ((al)).toNat)=some (.int .i64 (rd ah (al)))∧w'.cell? (aW.add (ak).toNat)=some (.int .i64 (rd ah ak))) (ds := [11]) (bs 12 0) (by kernel_rfl) rfl rfl ⟨bP,bQ⟩ (fun hHeld => ?_);refine with_tabW s1f_.tab8 s1f_.bits8 (fun HT_ HW_ => ?_)
    generalize w28.drew=w29 at aA ar af HI0 HK HB HQ27 HQ30 dG dE bP bQ hHeld ⊢
    refine zP 0 (some 41) (bs 12 1) ?_
    refine zP 1 (some 42) (bs 12 3) ?_
    refine zP 2 (some 43) (bs 12 7) ?_
    refine zP 3 (some 44) (bs 12 15) ?_
    refine zP 4 (some 45) (bs 12 31) ?_
    refine zP 6 (some 47) (bs 12 95) ?_
    refine zP 7 (some 48) (bs 12 223) ?_
    refine zP 8 (some 49) (bs 12 479) ?_
    refine zT 5 (some 46) (bs 12 511) hHeld ?_
    refine zT 9 (some 50) (bs 12 1023) hHeld ?_
    refine zP 10 (some 51) (bs 12 2047) ?_
    refine last_ (i:=11) (N:=none) (bs 12 4095) rfl rfl (one_of HT_.out (by kernel_rfl)) (by decide) (fun K hK => ?_)
    refine skip_ (w1 := ?_) (by rfl) rfl ?_ ?_
    rotate_left
    ·go_simp
     rfl
    refine hK.out _ _ ?_
    clear hK K
    refine done_ (done_of HT_.out (by kernel_rfl)) ?_
    try go_wp2
    go_roundg k1
    case measure=>have:=br.out;omega
    case rel=>exact⟨(dr),(wrap64 (ak+2)),zt,H',⟨by have:=br.out;omega⟩,⟨by(with_reducible repeat(first|apply rA|apply rN|apply rD));exact rM (rF (p:=⟨aJ,((rd ah (al)):Int).toNat,none⟩) (rM aA.out (fun k_ hk=>(⟨hk,fun e_=>hk (by rw [e_];rfl)⟩:_∧k_≠aJ))) (fun _ hk=>hk.2) (.int .i64 (rd ah ak))) (fun _ hk=>hk.1)⟩,⟨zR_ HQ30⟩,⟨by refine zbf ?_ _ (hp:=by have h_:=Kd.R_ne ar.out af.out (by decide);intro e_;exact h_ (by rw [e_];rfl));exact zK_ af⟩,⟨by repeat(first|(with_reducible first|exact HI0.out|apply IsS82.alloc|apply IsS82.drewN|apply IsS82.drew|apply IsS82.set_1|refine IsS82.far ?_ HN0_go21.out _|refine IsS82.far ?_ aq.out _)|exact HI0.out)⟩,⟨by repeat(first|(with_reducible first|exact HK.out|apply KeepBut.set_|apply keep_drewN|apply keep_drew|apply keep_alloc|refine keep_far ?_ GB21.out _|refine keep_far ?_ b5.out _)|exact HK.out)⟩,⟨by repeat(first|(with_reducible first|exact HB.out|apply bA|apply bN|apply bD|refine bS ?_ (Nat.le_trans HL.out GB21.out)|refine bS ?_ (IsS82.ge HI0.out)|refine bS ?_ aN.out)|exact HB.out)⟩⟩
   rw [if_neg bd] at H;have be:=dF bd;clear bd;obtain⟨⟨bl,ao⟩,fP,H⟩:=zbind H;dsimp only at H;have H':=A0_ H;clear H
   go_wp2_with (first|((with_reducible refine gC (f:=87) rfl ?_);refine goesL_ (some 54) rfl rfl Try.func87 (by kernel_rfl) rfl #[.pointer (some ⟨g,0,none⟩),.int .i64 aw] rfl (by(try simp only [List.map_toArray,List.map_cons,List.map_nil]);first|done|(simp only [aX];rfl)|rfl|(simp only [List.length_drop,List.length_take];rfl)) ?_;(with_reducible refine(s1g_.calls k1 g s0_0 aU aw bl ao w0 _ ?ax ?ay fP.out).mono ?_);(case ax=>repeat(first|(with_reducible first|exact HI0.out|apply IsS82.alloc|apply IsS82.drewN|apply IsS82.drew|apply IsS82.set_1|refine IsS82.far ?_ aq.out _)|exact HI0.out));(case ay=>repeat(first|(with_reducible first|exact HB.out|apply bA|apply bN|apply bD|refine bS ?_ (IsS82.ge HI0.out)|refine bS ?_ aN.out)|exact HB.out));rintro e w32 ⟨g4,rfl,a5,hi,hb,hk⟩;refine⟨_,rfl,?_⟩;replace af:=A0_ (KeepBut.blk hk (g':=aj) (o := .cells #[.slice none 0 0,.slice none 0 0] 25 (0,0)) (zK_ af) az.out (by simp));have bw:=A0_ (rL (Kd.R_new' (Kd.R_new' a5 (rX (zR_ aA))) (rX (zR_ ar))) (keep_size (w:=w) (g:=g) (row:=none) (zKp HK)));replace aA:=A0_ (rM (rT (Kd.R_oldK (IsS82.apart (show IsS82 w0 _ g s0_0 aU from zIs HI0) (zR_ aA) (by decide)) hk) (Kd.R_base a5)) (fun _ h_=>h_.1));replace ar:=A0_ (rM (rT (Kd.R_oldK (IsS82.apart (show IsS82 w0 _ g s0_0 aU from zIs HI0) (zR_ ar) (by decide)) hk) (Kd.R_base a5)) (fun _ h_=>h_.1));replace HK:=A0_ (KeepBut.trans (zKp HK) hk (.inl rfl));replace HB:=A0_ (hb);replace HI0:=A0_ (hi);(try clear hb);(try clear a5);obtain⟨cG,cH,eI⟩:=rS ar.out;subst eI;obtain⟨b8,b9,eJ⟩:=rS bw.out;subst eJ)|((with_reducible refine gD (N:=9) rfl ?_);refine zX (N:=9) (cs := #[.slice none 0 0,.slice none 0 0]) (t:=25) ?_;intro am hg w35 hbox hb;replace aA:=zR aA hb;replace ar:=zR ar hb;replace bw:=zR bw hb;replace HB:=A0_ (bT (zBw HB) hb);have ag:=A0_ (hbox);have d7:=A0_ ((by rw [hg];exact(keep_size (w:=w) (g:=g) (row:=none) (zKp HK)):w.heap.size≤am));have bf:=A0_ ((Nat.le_trans HW0.out (by rw [hg];exact(keep_size (w:=w) (g:=g) (row:=none) (zKp HK)):w.heap.size≤am):w0.heap.size≤am));replace HK:=A0_ (KeepBut.trans (zKp HK) (KeepBut.of_below hb g none) (.inl rfl));have ap:=zL hg af;have aC:=zM hg af;replace af:=zK af hb;have au:=A0_ ((by rw [hg];exact Nat.ne_of_lt (IsS82.lt (show IsS82 w0 _ g s0_0 ao from zIs HI0)):g≠am));have av:=A0_ ((by rw [hg];exact Nat.ne_of_gt (IsS82.lt (show IsS82 w0 _ g s0_0 ao from zIs HI0)):am≠g));replace HI0:=A0_ (IsS82.below (zIs HI0) hb);clear hb hbox hg;have gj:=aC.out;have gl:=ap.out;have gm:=av.out;have gn:=au.out;have bm:=zc0 ag;have bn:=zc1 ag;have bo:=kF ag.out 0;have bp:=kF ag.out 1))
   go_loopg [10] k1 (fun kq v10 w' => ∃ (aQ:Int) (aa:List Int) (ac:List Int) (u504000:Value) (u504001:Value),v10 = .int .i64 aQ∧Aside0 (s1f_.l1 kq aw aQ s0_0 ao aa ac=some (r1,r2,r3))∧Aside0 (kq≤k1)∧Aside0 (Kd.Q (Kd.int .i64) 3 w' w.heap.size (fun k_=>some k_≠(u504001:Value).ownBlock) u504000 aa)∧Aside0 (Kd.R (Kd.int .i64) 3 w' w.heap.size (fun k_=>some k_≠(u504000:Value).ownBlock) u504001 ac)∧Aside0 (w'.heap[aj]? = some (.cells #[(.slice none 0 0),(.slice none 0 0)] 25 (0,0)))∧Aside0 (w'.heap[am]? = some (.cells #[u504000,u504001] 25 (0,0)))∧Aside0 (IsS82 w0 w' g s0_0 ao)∧Aside0 (KeepBut w w' g none)∧Aside0 (Below w0.heap.size w0 w'))
   case atStart=>exact⟨(0),(bl),(aI),(.slice b8 bl.length b9),(.slice cG aI.length cH),zt,H',⟨Nat.le_refl _⟩,⟨Kd.Q_of_R (by(with_reducible repeat(first|apply rA|apply rN|apply rD));exact rM (rF (p:=⟨am,1,none⟩) (rF (p:=⟨am,0,none⟩) (rY bw.out ag.out (by decide)) (fun _ hk=>hk.2) (.slice b8 bl.length b9)) (fun _ hk=>hk.2) (.slice cG aI.length cH)) (fun _ hk=>hk.1.2))⟩,⟨by(with_reducible repeat(first|apply rA|apply rN|apply rD));exact rM (rF (p:=⟨am,1,none⟩) (rF (p:=⟨am,0,none⟩) (rY ar.out ag.out (by decide)) (fun _ hk=>hk.2) (.slice b8 bl.length b9)) (fun _ hk=>hk.2) (.slice cG aI.length cH)) (fun _ hk=>hk.1.2)⟩,⟨by refine zbf ?_ _ (hp:=by exact ap.out);refine zbf ?_ _ (hp:=by exact ap.out);exact zK_ af⟩,⟨by refine zbp (cs := #[.slice b8 bl.length b9,.slice none 0 0]) ?_ 1 _ rfl;refine zbp (cs := #[.slice none 0 0,.slice none 0 0]) ?_ 0 _ rfl;exact zK_ ag⟩,⟨zIs HI0⟩,⟨zKp HK⟩,⟨zBw HB⟩⟩
   case round =>
    clear H';(try clear c6);(try clear bX);(try clear bY);(try clear c7);(try clear b2);(try clear b3);(try clear bd);(try clear be);(try clear bm);(try clear bn);(try clear bo);(try clear bp);obtain⟨aQ,aa,ac,u504000,u504001,rfl,HA,bR,ab,ae,af,ag,HI0,HK,HB⟩:=hrel
    cases gk with
    | zero=>exact absurd HA.out (by simp [s1f_.l1])
    | succ k2 =>
     have H:=HA.out;clear HA;simp only [s1f_.l1] at H;have cI:=A0_ H;clear H
     go_upto_region 11 with(fail)
     go_cut [64] (fun v64 wc => ∃ (kq:Nat) (bg:Bool),v64 = .bool bg∧Aside0 (s1f_.j2 kq aw aQ bg s0_0 ao aa ac=some (r1,r2,r3))∧Aside0 (kq≤k2)∧Aside0 (Kd.Q (Kd.int .i64) 3 wc w.heap.size (fun k_=>some k_≠(u504001:Value).ownBlock) u504000 aa)∧Aside0 (Kd.R (Kd.int .i64) 3 wc w.heap.size (fun k_=>some k_≠(u504000:Value).ownBlock) u504001 ac)∧Aside0 (wc.heap[aj]? = some (.cells #[(.slice none 0 0),(.slice none 0 0)] 25 (0,0)))∧Aside0 (wc.heap[am]? = some (.cells #[u504000,u504001] 25 (0,0)))∧Aside0 (IsS82 w0 wc g s0_0 ao)∧Aside0 (KeepBut w wc g none)∧Aside0 (Below w0.heap.size w0 wc))
     case first =>
      have H:=cI.out;clear cI
      by_cases bU:aQ<aw
      ·rw [if_pos bU] at H
       have bh:=dT bU;clear bU
       (first|rw [bh]|(simp only [i64_w,i32_w];rw [bh])|skip)
       obtain⟨dH,fQ,H⟩:=zbind H;have H':=A0_ H;clear H;have gp:=aC.out;have gq:=ap.out;have gr:=av.out;have gs:=au.out;have fh:=zc0 ag;have fi:=zc1 ag;have fj:=kF ag.out 0;have fk:=kF ag.out 1;obtain⟨g5,g6,eK,_⟩:=Kd.Q_slice ab.out;subst eK;obtain⟨g7,g8,eL⟩:=rS ae.out;subst eL
       go_wp2_with (first|(go_at_call 57;(with_reducible refine(sx_.calls k2 _ _ aa _ _ ac dH _ ?ax ?ay ?ca ?cb fQ.out).mono ?_);(case ax=>exact zDQ ab);(case ay=>exact(Kd.Q_reads' ab.out).2.1);(case ca=>exact zD ae);(case cb=>exact(rR ae.out).2.1);rintro e w47 ⟨rfl,hb⟩;replace ab:=A0_ (Kd.Q_below (zQ_ ab) hb);replace ae:=zR ae hb;replace af:=zK af hb;replace ag:=zK ag hb;replace HK:=A0_ (KeepBut.trans (zKp HK) (KeepBut.of_below hb g none) (.inl rfl));replace HB:=A0_ (bT (zBw HB) hb);replace HI0:=A0_ (IsS82.below (zIs HI0) hb);(try clear hb)))
       go_meet
       case rel=>exact⟨_,(!dH),zt,H',⟨by have:=br.out;have:=bR.out;first|omega|exact Nat.le_refl _⟩,⟨zQ_ ab⟩,⟨zR_ ae⟩,⟨zK_ af⟩,⟨zK_ ag⟩,⟨zIs HI0⟩,⟨zKp HK⟩,⟨zBw HB⟩⟩
      rw [if_neg bU] at H;have bh:=dF bU;clear bU
      (first|rw [bh]|(simp only [i64_w,i32_w];rw [bh])|skip)
      have H':=A0_ H;clear H
      go_wp2
      go_meet
      case rel=>exact⟨_,(false),zt,H',⟨by have:=br.out;have:=bR.out;first|omega|exact Nat.le_refl _⟩,⟨zQ_ ab⟩,⟨zR_ ae⟩,⟨zK_ af⟩,⟨zK_ ag⟩,⟨zIs HI0⟩,⟨zKp HK⟩,⟨zBw HB⟩⟩
     case rest =>
      clear cI;(try clear c6);(try clear bX);(try clear bY);(try clear c7);(try clear b2);(try clear b3);(try clear bd);(try clear be);(try clear bm);(try clear bn);(try clear bo);(try clear bp);obtain⟨kq,bg,rfl,HA,cc,ab,ae,af,ag,HI0,HK,HB⟩:=hcut
      cases kq with
      | zero=>exact absurd HA.out (by simp [s1f_.j2])
      | succ aZ =>
       have H:=HA.out;clear HA;simp only [s1f_.j2] at H
       by_cases cp:bg=true
       ·subst cp
        have H1:((s14_.f aZ aa ac).bind fun aE=>(s1f_.l2 aZ aw aQ aE 0 s0_0 ao aa ac))=some (r1,r2,r3):=by rw [if_pos rfl] at H;exact H
        clear H;have H:=H1;clear H1;obtain⟨aE,fR,H⟩:=zbind H;have H':=A0_ H;clear H;have gt:=aC.out;have gu:=ap.out;have gv:=av.out;have gw:=au.out;have dh:=zc0 ag;have di:=zc1 ag;have dj:=kF ag.out 0;have dk:=kF ag.out 1;obtain⟨bB,aG,eM,_⟩:=Kd.Q_slice ab.out;subst eM;obtain⟨aK,aM,eN⟩:=rS ae.out;subst eN
        go_wp2_with (first|((with_reducible refine gC (f:=103) rfl ?_);refine zJ (some 71) Try.func103 #[.slice bB aa.length aG,.slice aK ac.length aM] ?_;(with_reducible refine(s14_.calls aZ _ _ aa _ _ ac aE _ ?ax ?ay ?ca ?cb fR.out).mono ?_);(case ax=>exact zDQ ab);(case ay=>exact(Kd.Q_reads' ab.out).2.1);(case ca=>exact zD ae);(case cb=>exact(rR ae.out).2.1);rintro e w55 ⟨cJ,rfl,a5,hb⟩;refine⟨_,rfl,?_⟩;have d8:=A0_ (rL (Kd.R_new' (Kd.R_new' a5 (Kd.Q_lt (zQ_ ab))) (rX (zR_ ae))) (keep_size (w:=w) (g:=g) (row:=none) (zKp HK)));replace ab:=A0_ (Kd.Q_elder' (zQ_ ab) (Kd.R_base a5) hb);replace ae:=A0_ (Kd.R_elder' (zR_ ae) (Kd.R_base a5) hb);replace af:=zK af hb;replace ag:=zK ag hb;replace HK:=A0_ (KeepBut.trans (zKp HK) (KeepBut.of_below hb g none) (.inl rfl));replace HB:=A0_ (bT (zBw HB) hb);replace HI0:=A0_ (IsS82.below (zIs HI0) hb);(try clear hb);(try clear a5)))
        go_loopg [12] aZ (fun kq v12 w' => ∃ (ai:Int),v12 = .int .i64 ai∧Aside0 (s1f_.l2 kq aw aQ aE ai s0_0 ao aa ac=some (r1,r2,r3))∧Aside0 (kq≤aZ)∧Aside0 (Kd.R (Kd.int .i64) 3 w' w.heap.size (fun k_=>some k_≠((.slice bB aa.length aG):Value).ownBlock∧some k_≠((.slice aK ac.length aM):Value).ownBlock) cJ aE)∧Aside0 (Kd.Q (Kd.int .i64) 3 w' w.heap.size (fun k_=>some k_≠(cJ:Value).ownBlock∧some k_≠((.slice aK ac.length aM):Value).ownBlock) (.slice bB aa.length aG) aa)∧Aside0 (Kd.R (Kd.int .i64) 3 w' w.heap.size (fun k_=>some k_≠(cJ:Value).ownBlock∧some k_≠((.slice bB aa.length aG):Value).ownBlock) (.slice aK ac.length aM) ac)∧Aside0 (w'.heap[aj]? = some (.cells #[(.slice none 0 0),(.slice none 0 0)] 25 (0,0)))∧Aside0 (w'.heap[am]? = some (.cells #[(.slice bB aa.length aG),(.slice aK ac.length aM)] 25 (0,0)))∧Aside0 (IsS82 w0 w' g s0_0 ao)∧Aside0 (KeepBut w w' g none)∧Aside0 (Below w0.heap.size w0 w'))
        case atStart=>exact⟨(0),zt,H',⟨Nat.le_refl _⟩,⟨zmR d8 (fun _ hk=>⟨hk.1.2,hk.2⟩)⟩,⟨zmQ ab (fun _ hk=>⟨hk.2,hk.1⟩)⟩,⟨zmR ae (fun _ hk=>⟨hk.2,hk.1⟩)⟩,⟨zK_ af⟩,⟨zK_ ag⟩,⟨zIs HI0⟩,⟨zKp HK⟩,⟨zBw HB⟩⟩
        case round =>
         clear H';(try clear c6);(try clear bX);(try clear bY);(try clear c7);(try clear b2);(try clear b3);(try clear bd);(try clear be);(try clear cp);(try clear bm);(try clear bn);(try clear dh);(try clear di);(try clear bo);(try clear bp);(try clear dj);(try clear dk);obtain⟨ai,rfl,HA,db,aH,ab,ae,af,ag,HI0,HK,HB⟩:=hrel
         cases gk with
         | zero=>exact absurd HA.out (by simp [s1f_.l2])
         | succ k4 =>
          have H:=HA.out;clear HA;simp only [s1f_.l2] at H
          have ez:=zpc H;replace H:=zph H
          have gx:=dT ez;clear ez
          have eA:=zpc H;replace H:=zph H
          have gy:=dT eA;clear eA
          by_cases bC:(rd aE ai)=0
          ·rw [if_pos bC] at H
           have d9:((rd aE ai) == 0)=true:=beq_iff_eq.mpr bC
           have ea:((rd aE ai) != 0)=false:=bne_eq_false_iff_eq.mpr bC
           clear bC;have H':=A0_ H;clear H;obtain⟨g9,ha,eO⟩:=rS aH.out;subst eO
           have a9:0≤(ai:Int):=zd
           have ba:ai<(aE.length:Int):=zd
           obtain⟨a7,cK,dl⟩:=tI (rR aH.out).2.2 ai a9 ba
           cases cK
           replace a9:=eq_true a9;replace ba:=eq_true ba
           go_wp2
           go_roundg k4
           case measure=>have:=br.out;have:=bR.out;have:=cc.out;have:=db.out;omega
           case rel=>exact⟨(wrap64 (ai+1)),zt,H',⟨by have:=br.out;have:=bR.out;have:=cc.out;have:=db.out;omega⟩,⟨zR_ aH⟩,⟨zQ_ ab⟩,⟨zR_ ae⟩,⟨zK_ af⟩,⟨zK_ ag⟩,⟨zIs HI0⟩,⟨zKp HK⟩,⟨zBw HB⟩⟩
          rw [if_neg bC] at H
          have d9:((rd aE ai) == 0)=false:=beq_eq_false_iff_ne.mpr bC
          have ea:((rd aE ai) != 0)=true:=bne_iff_ne.mpr bC
          have eB:=zpc H;replace H:=zph H
          have gz:=dT eB
          have gE:decide (0<aa.length)=true:=dT (by omega)
          clear eB
          have eC:=zpc H;replace H:=zph H
          have gF:=dT eC;clear eC
          obtain⟨cL,cd⟩ : ∃ y_:List Int,y_=(aa.set (0:Int).toNat (rd aa ai)):=⟨_,rfl⟩
          replace H:(s1f_.l1 k4 aw (wrap64 (aQ+1)) s0_0 ao (cL.set (ai:Int).toNat (rd aa 0)) ac)=some (r1,r2,r3):=zH cd H
          have eb:=A0_ cd;clear cd
          obtain⟨cM,ce⟩ : ∃ y_:List Int,y_=(cL.set (ai:Int).toNat (rd aa 0)):=⟨_,rfl⟩
          replace H:(s1f_.l1 k4 aw (wrap64 (aQ+1)) s0_0 ao cM ac)=some (r1,r2,r3):=zH ce H
          have ec:=A0_ ce;clear ce;have H':=A0_ H;clear H;obtain⟨hh,bE,eP⟩:=rS aH.out;subst eP
          have a9:0≤(ai:Int):=zd
          have ba:ai<(aE.length:Int):=zd
          obtain⟨a7,cK,dl⟩:=tI (rR aH.out).2.2 ai a9 ba
          cases cK
          replace a9:=eq_true a9;replace ba:=eq_true ba;have gG:=aC.out;have gH:=ap.out;have gI:=av.out;have gJ:=au.out;have fl:=zc0 ag;have fm:=zc1 ag;have fo:=kF ag.out 0;have fp:=kF ag.out 1
          have cO:0≤(0:Int):=(by omega)
          have cP:0<(aa.length:Int):=zd
          obtain⟨ed,eQ,a8⟩:=tI (Kd.Q_reads' ab.out).2.2 0 cO cP
          cases eQ
          have qi509:(0<aa.length)=True:=eq_true (by omega)
          (try rw [show((0:Int)).toNat=0 from rfl] at a8)
          (try rw [Addr.add_zero'] at a8)
          replace cO:=eq_true cO;replace cP:=eq_true cP
          try go_wp2
          replace aH:=A0_ (rD aH.out)
          replace ab:=A0_ (Kd.Q_drew ab.out)
          replace ae:=A0_ (rD ae.out)
          replace af:=A0_ (kD af.out)
          replace ag:=A0_ (kD ag.out)
          replace HI0:=A0_ (IsS82.drew HI0.out)
          replace HK:=A0_ (keep_drew HK.out)
          replace HB:=A0_ (bD HB.out)
          have cQ:0≤(ai:Int):=zd
          have cR:ai<(aa.length:Int):=zd
          obtain⟨ee,eR,bq⟩:=tI (Kd.Q_reads' ab.out).2.2 ai cQ cR
          obtain rfl:ed=ee:=(by injection eR)
          replace cQ:=eq_true cQ;replace cR:=eq_true cR
          have dI:0≤(0:Int):=(by omega)
          have dJ:(0:Int)<((aa.length:Int):Int):=zd
          have qi62:(0<aa.length)=True:=eq_true (by omega)
          obtain⟨an,oo62,hm,dK,dL,gl62,cl62,HG62⟩:=Kd.Q_form ab.out (by omega)
          (first|cases dK|(injection dK with ea_ en_ ec_;(first|subst ea_|(injection ea_ with ea_;subst ea_));subst ec_;clear en_))
          have GB62:=A0_ dL;have GG62:=A0_ HG62;clear dL gl62 HG62
          (first|simp only [add_at] at a8|skip)
          (first|simp only [add_at] at bq|skip)
          obtain⟨bF,bG⟩:=Kd.Q_cell 0 ab.out (0:Int) dI dJ
          (try rw [show((0:Int)).toNat=0 from rfl] at bF)
          (try simp only [Nat.reduceMul,Nat.zero_mul,Nat.zero_add,Nat.add_zero,Nat.reduceAdd] at bF)
          (try rw [show((0:Int)).toNat=0 from rfl] at bG)
          (try simp only [Nat.reduceMul,Nat.zero_mul,Nat.zero_add,Nat.add_zero,Nat.reduceAdd] at bG)
          replace dI:=eq_true dI;replace dJ:=eq_true dJ
          have HN0_go62:=A0_ (show g≠an from by have h_:=IsS82.own_neQ HI0.out ab.out (by decide);intro e_;exact h_ (by rw [e_];rfl))
          have HP69:=(Kd.Q_putg ab.out (0:Int) (by omega) (by have h_:(0:Int)<((aa.length:Int):Int):=zd;first|exact h_|(have e_:=(Kd.Q_reads' ab.out).1;omega)|simpa using h_) (rd aa ai)).1
          rw [← eb.out] at HP69
          have HQ69:=A0_ HP69;clear HP69
          refine start_ (n:=9) (S:=fun w'=>w'.cell? ⟨am,0,none⟩=some (.slice (some ⟨an,oo62,none⟩) aa.length aG)∧w'.cell? ⟨am,1,none⟩=some (.slice aK ac.length aM)∧w'.cell? ⟨an,oo62+(ai).toNat,none⟩=some (.int .i64 (rd aa ai))) (ds := [8]) (bs 9 0) (by kernel_rfl) rfl rfl ⟨(kC ag.out 0).trans rfl,(kC ag.out 1).trans rfl,bq⟩ (fun hHeld => ?_);refine with_tabW s1f_.tab18 s1f_.bits18 (fun HT_ HW_ => ?_)
          generalize wr.drew=w68 at aH ab ae af ag HI0 HK HB GG62 HQ69 bG a8 bq bF hHeld ⊢
          refine zP 0 (some 83) (bs 9 1) ?_
          refine zP 2 (some 85) (bs 9 5) ?_
          refine zP 4 (some 87) (bs 9 21) ?_
          refine zT 1 (some 84) (bs 9 23) hHeld ?_
          refine zT 3 (some 86) (bs 9 31) hHeld ?_
          refine zP 5 (some 88) (bs 9 63) ?_
          refine zT 6 (some 89) (bs 9 127) hHeld ?_
          refine zP 7 (some 90) (bs 9 255) ?_
          refine last_ (i:=8) (N:=none) (bs 9 511) rfl rfl (one_of HT_.out (by kernel_rfl)) (by decide) (fun K hK => ?_)
          refine skip_ (w1 := ?_) (by rfl) rfl ?_ ?_
          rotate_left
          ·go_simp
           rfl
          refine hK.out _ _ ?_
          clear hK K
          refine done_ (done_of HT_.out (by kernel_rfl)) ?_
          have n0_:Aside0 (Kd.R (Kd.int .i64) 3 (w68.setCell ⟨an,oo62,none⟩ (.int .i64 (rd aa ai))) w.heap.size (fun k_=>some k_≠(.slice (some ⟨an,oo62,none⟩) aa.length aG:Value).ownBlock∧some k_≠(.slice aK ac.length aM:Value).ownBlock) (.slice (some a7) aE.length bE) aE):=⟨by(with_reducible repeat(first|apply rA|apply rN|apply rD));exact rM (rF (p:=⟨an,oo62,none⟩) (rM aH.out (fun k_ hk=>(⟨hk,fun e_=>hk.1 (by rw [e_];rfl)⟩:_∧k_≠an))) (fun _ hk=>hk.2) (.int .i64 (rd aa ai))) (fun _ hk=>⟨hk.1.1,hk.1.2⟩)⟩
          have n1_:Aside0 (Kd.Q (Kd.int .i64) 3 (w68.setCell ⟨an,oo62,none⟩ (.int .i64 (rd aa ai))) w.heap.size (fun k_=>some k_≠(.slice (some a7) aE.length bE:Value).ownBlock∧some k_≠(.slice aK ac.length aM:Value).ownBlock) (.slice (some ⟨an,oo62,none⟩) aa.length aG) cL):=⟨zQ_ HQ69⟩
          have n2_:Aside0 (Kd.R (Kd.int .i64) 3 (w68.setCell ⟨an,oo62,none⟩ (.int .i64 (rd aa ai))) w.heap.size (fun k_=>some k_≠(.slice (some a7) aE.length bE:Value).ownBlock∧some k_≠(.slice (some ⟨an,oo62,none⟩) aa.length aG:Value).ownBlock) (.slice aK ac.length aM) ac):=⟨by(with_reducible repeat(first|apply rA|apply rN|apply rD));exact rM (rF (p:=⟨an,oo62,none⟩) (rM ae.out (fun k_ hk=>(⟨hk,fun e_=>hk.2 (by rw [e_];rfl)⟩:_∧k_≠an))) (fun _ hk=>hk.2) (.int .i64 (rd aa ai))) (fun _ hk=>⟨hk.1.1,hk.1.2⟩)⟩
          have n3_:Aside0 ((w68.setCell ⟨an,oo62,none⟩ (.int .i64 (rd aa ai))).heap[aj]? = some (.cells #[.slice none 0 0,.slice none 0 0] 25 (0,0))):=⟨by refine zbf ?_ _ (hp:=by have h_:=Kd.Q_ne ab.out af.out (by decide);intro e_;exact h_ (by rw [e_];rfl));exact zK_ af⟩
          have n4_:Aside0 ((w68.setCell ⟨an,oo62,none⟩ (.int .i64 (rd aa ai))).heap[am]? = some (.cells #[.slice (some ⟨an,oo62,none⟩) aa.length aG,.slice aK ac.length aM] 25 (0,0))):=⟨by refine zbf ?_ _ (hp:=by have h_:=Kd.Q_ne ab.out ag.out (by decide);intro e_;exact h_ (by rw [e_];rfl));exact zK_ ag⟩
          have n5_:Aside0 (IsS82 w0 (w68.setCell ⟨an,oo62,none⟩ (.int .i64 (rd aa ai))) g s0_0 ao):=⟨by repeat(first|(with_reducible first|exact HI0.out|apply IsS82.alloc|apply IsS82.drewN|apply IsS82.drew|apply IsS82.set_1|refine IsS82.far ?_ HN0_go62.out _|refine IsS82.far ?_ aq.out _|refine IsS82.far ?_ au.out _)|exact HI0.out)⟩
          have n6_:Aside0 (KeepBut w (w68.setCell ⟨an,oo62,none⟩ (.int .i64 (rd aa ai))) g none):=⟨by repeat(first|(with_reducible first|exact HK.out|apply KeepBut.set_|apply keep_drewN|apply keep_drew|apply keep_alloc|refine keep_far ?_ GB62.out _|refine keep_far ?_ b5.out _|refine keep_far ?_ d7.out _)|exact HK.out)⟩
          have n7_:Aside0 (Below w0.heap.size w0 (w68.setCell ⟨an,oo62,none⟩ (.int .i64 (rd aa ai)))):=⟨by repeat(first|(with_reducible first|exact HB.out|apply bA|apply bN|apply bD|refine bS ?_ (Nat.le_trans HL.out GB62.out)|refine bS ?_ (IsS82.ge HI0.out)|refine bS ?_ aN.out|refine bS ?_ bf.out)|exact HB.out)⟩
          (try clear aH);(try clear ab);(try clear ae);(try clear af);(try clear ag);(try clear HI0);(try clear HK);(try clear HB)
          generalize (w68.setCell ⟨an,oo62,none⟩ (.int .i64 (rd aa ai)))=w70 at n0_ n1_ n2_ n3_ n4_ n5_ n6_ n7_ ⊢
          have aH:=n0_;have ab:=n1_;have ae:=n2_;have af:=n3_;have ag:=n4_;have HI0:=n5_;have HK:=n6_;have HB:=n7_;clear n0_ n1_ n2_ n3_ n4_ n5_ n6_ n7_;have fq:=zc0 ag;have fs:=zc1 ag;have ft:=kF ag.out 0;have fu:=kF ag.out 1
          have dM:0≤(ai:Int):=zd
          have dN:(ai:Int)<((aa.length:Int):Int):=zd
          obtain⟨fS,fT⟩:=Kd.Q_cell 0 ab.out (ai:Int) dM dN
          replace dM:=eq_true dM;replace dN:=eq_true dN
          obtain⟨hy72_,hz72_⟩:=Kd.Q_cell 0 ab.out (ai:Int) (zd) (zd)
          have HP72:=Kd.Q_putg ab.out (ai:Int) (zd) (by have h_:(ai:Int)<((aa.length:Int):Int):=zd;first|exact h_|(have e_:=(Kd.Q_reads' ab.out).1;omega)|simpa using h_) (rd aa 0)
          try go_wp2_with (first|((with_reducible refine gS (t:=3) (p:=95) rfl ?_);refine store_event (t:=3) (p:=95) (v := ?vo_w73) (w1:=(w70.setCell ⟨an,oo62+(ai:Int).toNat,none⟩ (.int .i64 (rd aa 0)))) ?hg ?ho ?hn ?hr ?_;(case ho=>rfl);(case hg=>rfl);(case hn=>rfl);(case hr=>first|(go_simp;done)|(go_simp;rfl));intro w73 hw;have hg:w70.grownBy w73 (some an):=(by rw [hw];exact HP72.2);have hp_:Kd.Q (Kd.int .i64) 3 w73 w.heap.size (fun k_=>some k_≠(.slice (some a7) aE.length bE:Value).ownBlock∧some k_≠(.slice aK ac.length aM:Value).ownBlock) (.slice (some ⟨an,oo62,none⟩) aa.length aG) cM:=(by rw [hw,ec.out];exact HP72.1);clear HP72;replace aH:=A0_ (Kd.R_after (v:=(.slice (some ⟨an,oo62,none⟩) aa.length aG)) (v1:=(.slice (some ⟨an,oo62,none⟩) aa.length aG)) (ok:=(fun k_=>some k_≠(.slice aK ac.length aM:Value).ownBlock)) (zmR aH (fun _ hk=>⟨hk.2,hk.1⟩)) hg (.inl rfl));replace ae:=A0_ (Kd.R_after (v:=(.slice (some ⟨an,oo62,none⟩) aa.length aG)) (v1:=(.slice (some ⟨an,oo62,none⟩) aa.length aG)) (ok:=(fun k_=>some k_≠(.slice (some a7) aE.length bE:Value).ownBlock)) (zR_ ae) hg (.inl rfl));replace af:=A0_ (blk_grown (g:=aj) (o := .cells #[.slice none 0 0,.slice none 0 0] 25 (0,0)) (zK_ af) hg (Kd.Q_ne ab.out af.out (by decide)));replace ag:=A0_ (blk_grown (g:=am) (o := .cells #[.slice (some ⟨an,oo62,none⟩) aa.length aG,.slice aK ac.length aM] 25 (0,0)) (zK_ ag) hg (Kd.Q_ne ab.out ag.out (by decide)));replace HI0:=A0_ (IsS82.grown (zIs HI0) hg (IsS82.own_neQ HI0.out ab.out (by decide)));replace HB:=A0_ ((by rw [hw];exact bS (HB.out) (Nat.le_trans HL.out GB62.out):Below w0.heap.size w0 w73));replace HK:=A0_ (KeepBut.trans (zKp HK) (KeepBut.of_grown hg g) (Kd.Q_base2 ab.out));replace ab:=A0_ (hp_);clear hg hw hp_))
          go_roundg k4
          case measure=>have:=br.out;have:=bR.out;have:=cc.out;have:=db.out;omega
          case rel=>exact⟨(wrap64 (aQ+1)),(cM),(ac),(.slice (some ⟨an,oo62,none⟩) aa.length aG),(.slice aK ac.length aM),zt,H',⟨by have:=br.out;have:=bR.out;have:=cc.out;have:=db.out;omega⟩,⟨zmQ ab (fun _ hk=>hk.2)⟩,⟨zmR ae (fun _ hk=>hk.2)⟩,⟨zK_ af⟩,⟨zK_ ag⟩,⟨zIs HI0⟩,⟨zKp HK⟩,⟨zBw HB⟩⟩
       replace cp:=Bool.eq_false_iff.mpr cp;subst cp
       have H1:((s1a_.f aZ s0_0 ao 50).bind fun a3=>(if a3.1=0 then (if 0<(ac.length:Int) then (some (aa,(ac.set (0:Int).toNat 0),a3.2)) else (none)) else (if a3.1=1 then (if 1≤(aa.length:Int) then (some ((aa.drop (1:Int).toNat),ac,a3.2)) else (none)) else (if a3.1=2 then (if 0<(aa.length:Int) then (some ((aa.set (0:Int).toNat aw),ac,a3.2)) else (none)) else (some (aa,ac,a3.2))))))=some (r1,r2,r3):=by rw [if_neg (show ¬ (false=true) by decide)] at H;exact H
       clear H;have H:=H1;clear H1;obtain⟨⟨aD,bb⟩,dc,H⟩:=zbind H;dsimp only at H
       by_cases bH:aD=0
       ·rw [if_pos bH] at H
        have ef:(aD == 0)=true:=beq_iff_eq.mpr bH
        have eg:(aD != 0)=false:=bne_eq_false_iff_eq.mpr bH
        clear bH
        have eD:=zpc H;replace H:=zph H
        have gK:=dT eD
        have gL:decide (0<ac.length)=true:=dT (by omega)
        clear eD
        obtain⟨dO,cf⟩ : ∃ y_:List Int,y_=(ac.set (0:Int).toNat 0):=⟨_,rfl⟩
        replace H:(some (aa,dO,bb))=some (r1,r2,r3):=zH cf H
        have eh:=A0_ cf;clear cf;simp only [Option.some.injEq,Prod.mk.injEq] at H;obtain⟨rfl,rfl,rfl⟩:=H
        go_wp2_with (first|((with_reducible refine gC (f:=74) rfl ?_);refine zJ (some 97) Try.func74 #[.pointer (some ⟨g,0,none⟩),.int .i64 50] ?_;(with_reducible refine(s1a_.calls aZ g s0_0 ao 50 aD bb w0 _ ?ax ?ay dc.out).mono ?_);(case ax=>repeat(first|(with_reducible first|exact HI0.out|apply IsS82.alloc|apply IsS82.drewN|apply IsS82.drew|apply IsS82.set_1|refine IsS82.far ?_ aq.out _|refine IsS82.far ?_ au.out _)|exact HI0.out));(case ay=>repeat(first|(with_reducible first|exact HB.out|apply bA|apply bN|apply bD|refine bS ?_ (IsS82.ge HI0.out)|refine bS ?_ aN.out|refine bS ?_ bf.out)|exact HB.out));rintro e w78 ⟨rfl,hi,hb,hk⟩;refine⟨_,rfl,?_⟩;replace ab:=A0_ (Kd.Q_mono (Kd.Q_keep (IsS82.apartQ (show IsS82 w0 _ g s0_0 ao from zIs HI0) (zQ_ ab) (by decide)) hk (fun _ h=>h.2)) (fun _ h=>h.1));replace ae:=A0_ (rM (Kd.R_keep (IsS82.apart (show IsS82 w0 _ g s0_0 ao from zIs HI0) (zR_ ae) (by decide)) hk (fun _ h=>h.2)) (fun _ h=>h.1));replace af:=A0_ (KeepBut.blk hk (g':=aj) (o := .cells #[.slice none 0 0,.slice none 0 0] 25 (0,0)) (zK_ af) az.out (by simp));replace ag:=A0_ (KeepBut.blk hk (g':=am) (o := .cells #[u504000,u504001] 25 (0,0)) (zK_ ag) av.out (by simp));replace HK:=A0_ (KeepBut.trans (zKp HK) hk (.inl rfl));replace HB:=A0_ (hb);replace HI0:=A0_ (hi);(try clear hb);have gM:=aC.out;have gN:=ap.out;have gO:=av.out;have gP:=au.out;have fv:=zc0 ag;have fw:=zc1 ag;have fx:=kF ag.out 0;have fy:=kF ag.out 1;have dP:0≤(0:Int):=(by omega);have dQ:(0:Int)<((ac.length:Int):Int):=zd;have qi77:(0<ac.length)=True:=eq_true (by omega);obtain⟨a4,bc,dR,dS,gl77,cl77,HG77⟩:=Kd.R_form ae.out (by omega);(first|cases dR|(injection dR with ea_ en_ ec_;(first|subst ea_|(injection ea_ with ea_;subst ea_));subst ec_;clear en_));have GB77:=A0_ dS;have GG77:=A0_ HG77;clear dS gl77 HG77;obtain⟨cq,cr⟩:=Kd.R_celln 0 ae.out (0:Int) dP dQ;(try rw [show((0:Int)).toNat=0 from rfl] at cq);(try simp only [Nat.reduceMul,Nat.zero_mul,Nat.zero_add,Nat.add_zero,Nat.reduceAdd] at cq);(try rw [show((0:Int)).toNat=0 from rfl] at cr);(try simp only [Nat.reduceMul,Nat.zero_mul,Nat.zero_add,Nat.add_zero,Nat.reduceAdd] at cr);replace dP:=eq_true dP;replace dQ:=eq_true dQ;obtain⟨hy82_,hz82_⟩:=Kd.R_celln 0 ae.out (0:Int) (by omega) (zd);(try simp only [Int.reduceToNat,Int.toNat_zero,Int.toNat_ofNat,Nat.reduceMul,Nat.zero_mul,Nat.zero_add,Nat.add_zero] at hy82_ hz82_);(try rw [show((0:Int)).toNat=0 from rfl] at hy82_);(try rw [show((0:Int)).toNat=0 from rfl] at hz82_);have HP82:=Kd.R_putg ae.out (0:Int) 0)|((with_reducible refine gS (t:=3) (p:=102) rfl ?_);refine store_event (t:=3) (p:=102) (v := ?vo_w83) (w1:=(w78.setCell ⟨a4,(0:Int).toNat,none⟩ (.int .i64 0))) ?hg ?ho ?hn ?hr ?_;(case ho=>rfl);(case hg=>rfl);(case hn=>rfl);(case hr=>first|(go_simp;done)|(go_simp;rfl));intro w83 hw;have hg:w78.grownBy w83 (some a4):=(by rw [hw];exact HP82.2);have hp_:Kd.R (Kd.int .i64) 3 w83 w.heap.size (fun k_=>some k_≠(u504000:Value).ownBlock) (.slice (some ⟨a4,0,none⟩) ac.length bc) dO:=(by rw [hw,eh.out];exact HP82.1);clear HP82;replace ab:=A0_ (Kd.Q_after (v:=(.slice (some ⟨a4,0,none⟩) ac.length bc)) (v1:=(.slice (some ⟨a4,0,none⟩) ac.length bc)) (ok:=(fun _=>True)) (zmQ ab (fun _ hk=>⟨trivial,hk⟩)) hg (.inl rfl));replace af:=A0_ (blk_grown (g:=aj) (o := .cells #[.slice none 0 0,.slice none 0 0] 25 (0,0)) (zK_ af) hg (Kd.R_ne ae.out af.out (by decide)));replace ag:=A0_ (blk_grown (g:=am) (o := .cells #[u504000,.slice (some ⟨a4,0,none⟩) ac.length bc] 25 (0,0)) (zK_ ag) hg (Kd.R_ne ae.out ag.out (by decide)));replace HI0:=A0_ (IsS82.grown (zIs HI0) hg (IsS82.own_ne HI0.out ae.out (by decide)));replace HB:=A0_ ((by rw [hw];exact bS (HB.out) (Nat.le_trans HL.out GB77.out):Below w0.heap.size w0 w83));replace HK:=A0_ (KeepBut.trans (zKp HK) (KeepBut.of_grown hg g) (Kd.R_base2 ae.out));replace ae:=A0_ (hp_);clear hg hw hp_;have fz:=zc0 ag;have fA:=zc1 ag;have fB:=kF ag.out 0;have fC:=kF ag.out 1;obtain⟨cg,ch,eS,_⟩:=Kd.Q_slice ab.out;subst eS;have gQ:=az.out;have gR:=aq.out;have fD:=zc0 af;have fE:=zc1 af;have fF:=kF af.out 0;have fG:=kF af.out 1))
        refine bodyPost_ret (results_cell_row rfl _ _ aj 25 #[.slice cg aa.length ch,.slice (some ⟨a4,0,none⟩) ac.length bc] (0,0) _ rfl (by refine zbp (cs := #[.slice cg aa.length ch,.slice none 0 0]) ?_ 1 _ rfl;refine zbp (cs := #[.slice none 0 0,.slice none 0 0]) ?_ 0 _ rfl;exact zK_ af) Try.underlying25 rfl (by kernel_rfl)) rfl ?_
        exact⟨_,_,by first|rfl|(simp [errW_none,errW_some] <;> rfl)|(simp only [← aX];first|rfl|(simp [errW_none,errW_some] <;> rfl))|(simp [*,errW_none,errW_some] <;> rfl),by(with_reducible repeat(first|apply Kd.Q_alloc|apply Kd.Q_drewN|apply Kd.Q_drew));exact Kd.Q_mono (Kd.Q_far (p:=⟨aj,1,none⟩) (Kd.Q_far (p:=⟨aj,0,none⟩) (Kd.Q_types ab.out af.out (by decide)) (fun _ hk=>hk.2) (.slice cg aa.length ch)) (fun _ hk=>hk.2) (.slice (some ⟨a4,0,none⟩) ac.length bc)) (fun _ hk=>hk.1.2),zF ae af (.slice cg aa.length ch) (.slice (some ⟨a4,0,none⟩) ac.length bc) 0 1,zIs HI0,zBw HB,zKp HK⟩
       rw [if_neg bH] at H
       have ef:(aD == 0)=false:=beq_eq_false_iff_ne.mpr bH
       have eg:(aD != 0)=true:=bne_iff_ne.mpr bH
       by_cases bI:aD=1
       ·rw [if_pos bI] at H
        have ei:(aD == 1)=true:=beq_iff_eq.mpr bI
        have ej:(aD != 1)=false:=bne_eq_false_iff_eq.mpr bI
        clear bI
        have dU:=zpc H;replace H:=zph H
        have gT:=eq_true dU;have gU:=dT dU;clear dU
        obtain⟨aV,ci⟩ : ∃ y_:List Int,y_=(aa.drop (1:Int).toNat):=⟨_,rfl⟩
        replace H:(some (aV,ac,bb))=some (r1,r2,r3):=zH ci H
        have dd:=A0_ ci;clear ci;simp only [Option.some.injEq,Prod.mk.injEq] at H;obtain⟨rfl,rfl,rfl⟩:=H
        go_wp2_with (first|((with_reducible refine gC (f:=74) rfl ?_);refine zJ (some 97) Try.func74 #[.pointer (some ⟨g,0,none⟩),.int .i64 50] ?_;(with_reducible refine(s1a_.calls aZ g s0_0 ao 50 aD bb w0 _ ?ax ?ay dc.out).mono ?_);(case ax=>repeat(first|(with_reducible first|exact HI0.out|apply IsS82.alloc|apply IsS82.drewN|apply IsS82.drew|apply IsS82.set_1|refine IsS82.far ?_ aq.out _|refine IsS82.far ?_ au.out _)|exact HI0.out));(case ay=>repeat(first|(with_reducible first|exact HB.out|apply bA|apply bN|apply bD|refine bS ?_ (IsS82.ge HI0.out)|refine bS ?_ aN.out|refine bS ?_ bf.out)|exact HB.out));rintro e w90 ⟨rfl,hi,hb,hk⟩;refine⟨_,rfl,?_⟩;replace ab:=A0_ (Kd.Q_mono (Kd.Q_keep (IsS82.apartQ (show IsS82 w0 _ g s0_0 ao from zIs HI0) (zQ_ ab) (by decide)) hk (fun _ h=>h.2)) (fun _ h=>h.1));replace ae:=A0_ (rM (Kd.R_keep (IsS82.apart (show IsS82 w0 _ g s0_0 ao from zIs HI0) (zR_ ae) (by decide)) hk (fun _ h=>h.2)) (fun _ h=>h.1));replace af:=A0_ (KeepBut.blk hk (g':=aj) (o := .cells #[.slice none 0 0,.slice none 0 0] 25 (0,0)) (zK_ af) az.out (by simp));replace ag:=A0_ (KeepBut.blk hk (g':=am) (o := .cells #[u504000,u504001] 25 (0,0)) (zK_ ag) av.out (by simp));replace HK:=A0_ (KeepBut.trans (zKp HK) hk (.inl rfl));replace HB:=A0_ (hb);replace HI0:=A0_ (hi);(try clear hb);have gV:=aC.out;have gW:=ap.out;have gX:=av.out;have gY:=au.out;have fH:=zc0 ag;have fI:=zc1 ag;have fJ:=kF ag.out 0;have fK:=kF ag.out 1;obtain⟨bJ,cj,eT,_⟩:=Kd.Q_slice ab.out;subst eT;have dV:(1:Int)≤((aa.length:Int):Int):=zd;obtain⟨i095,de,_,hsz95,_⟩:=info_parts info3;have hcut95:=cut_from (P:=Try.prog) 23 3 .i64 Try.underlying23 de 1 hsz95 bJ aa.length cj 1 (by omega) dV;have bK:=Kd.Q_drop (k:=(1:Int).toNat) ab.out (by omega);obtain⟨bi,hA95⟩ : ∃ A1,A1=(if cj=(1:Int).toNat then bJ else (bJ:Option Addr).map (·.add ((1:Int).toNat*1))):=⟨_,rfl⟩;obtain⟨bj,cS⟩ : ∃ c1,c1=cj - (1:Int).toNat:=⟨_,rfl⟩;have cT:aV.length=aa.length - (1:Int).toNat:=(by rw [dd.out,List.length_drop]);rw [← dd.out] at bK;rw [← cT,← hA95,← cS] at hcut95;replace bK:Kd.Q (Kd.int .i64) 3 w90 w.heap.size (fun k_=>some k_≠(u504001:Value).ownBlock) (.slice bi aV.length bj) aV:=(by rw [hA95,cS,cT];exact bK);have HE95:Aside0 ((Value.slice bi aV.length bj).ownBlock=(.slice bJ aa.length cj:Value).ownBlock):=⟨by rw [hA95];split <;> (cases (bJ:Option Addr) <;> rfl)⟩;clear cT de hsz95 ab hA95 cS;have ek:=A0_ bK;clear bK;replace dV:=eq_true dV;have n_:=A0_ (rM (ok':=fun k_=>some k_≠(.slice bi aV.length bj:Value).ownBlock) ae.out (fun k_ hk=>(by rw [HE95.out];exact hk)));clear ae;have ae:=n_;clear n_;have gZ:=az.out;have g1:=aq.out;have fL:=zc0 af;have fM:=zc1 af;have fN:=kF af.out 0;have fO:=kF af.out 1;obtain⟨cU,cV,eU⟩:=rS ae.out;subst eU))
        refine bodyPost_ret (results_cell_row rfl _ _ aj 25 #[.slice bi aV.length bj,.slice cU ac.length cV] (0,0) _ rfl (by refine zbp (cs := #[.slice bi aV.length bj,.slice none 0 0]) ?_ 1 _ rfl;refine zbp (cs := #[.slice none 0 0,.slice none 0 0]) ?_ 0 _ rfl;refine zbf ?_ _ (hp:=by exact ap.out);exact zK_ af) Try.underlying25 rfl (by kernel_rfl)) rfl ?_
        exact⟨_,_,by first|rfl|(simp [errW_none,errW_some] <;> rfl)|(simp only [← aX];first|rfl|(simp [errW_none,errW_some] <;> rfl))|(simp [*,errW_none,errW_some] <;> rfl),by(with_reducible repeat(first|apply Kd.Q_alloc|apply Kd.Q_drewN|apply Kd.Q_drew));exact Kd.Q_mono (Kd.Q_far (p:=⟨aj,1,none⟩) (Kd.Q_far (p:=⟨aj,0,none⟩) (Kd.Q_far (p:=⟨am,0,none⟩) (Kd.Q_types (Kd.Q_types ek.out ag.out (by decide)) af.out (by decide)) (fun _ hk=>hk.1.2) (.slice bi aV.length bj)) (fun _ hk=>hk.2) (.slice bi aV.length bj)) (fun _ hk=>hk.2) (.slice cU ac.length cV)) (fun _ hk=>hk.1.1),by(with_reducible repeat(first|apply rA|apply rN|apply rD));exact rM (rF (p:=⟨aj,1,none⟩) (rF (p:=⟨aj,0,none⟩) (rF (p:=⟨am,0,none⟩) (rY (rY ae.out ag.out (by decide)) af.out (by decide)) (fun _ hk=>hk.1.2) (.slice bi aV.length bj)) (fun _ hk=>hk.2) (.slice bi aV.length bj)) (fun _ hk=>hk.2) (.slice cU ac.length cV)) (fun _ hk=>hk.1.1),zIs HI0,zBw HB,zKp HK⟩
       rw [if_neg bI] at H
       have ei:(aD == 1)=false:=beq_eq_false_iff_ne.mpr bI
       have ej:(aD != 1)=true:=bne_iff_ne.mpr bI
       by_cases bL:aD=2
       ·rw [if_pos bL] at H
        have el:(aD == 2)=true:=beq_iff_eq.mpr bL
        have em:(aD != 2)=false:=bne_eq_false_iff_eq.mpr bL
        clear bL
        have dW:=zpc H;replace H:=zph H
        have fU:=dT dW
        have fV:decide (0<aa.length)=true:=dT (by omega)
        clear dW
        obtain⟨dX,ck⟩ : ∃ y_:List Int,y_=(aa.set (0:Int).toNat aw):=⟨_,rfl⟩
        replace H:(some (dX,ac,bb))=some (r1,r2,r3):=zH ck H
        have en:=A0_ ck;clear ck;simp only [Option.some.injEq,Prod.mk.injEq] at H;obtain⟨rfl,rfl,rfl⟩:=H
        go_wp2_with (first|((with_reducible refine gC (f:=74) rfl ?_);refine zJ (some 97) Try.func74 #[.pointer (some ⟨g,0,none⟩),.int .i64 50] ?_;(with_reducible refine(s1a_.calls aZ g s0_0 ao 50 aD bb w0 _ ?ax ?ay dc.out).mono ?_);(case ax=>repeat(first|(with_reducible first|exact HI0.out|apply IsS82.alloc|apply IsS82.drewN|apply IsS82.drew|apply IsS82.set_1|refine IsS82.far ?_ aq.out _|refine IsS82.far ?_ au.out _)|exact HI0.out));(case ay=>repeat(first|(with_reducible first|exact HB.out|apply bA|apply bN|apply bD|refine bS ?_ (IsS82.ge HI0.out)|refine bS ?_ aN.out|refine bS ?_ bf.out)|exact HB.out));rintro e dY ⟨rfl,hi,hb,hk⟩;refine⟨_,rfl,?_⟩;replace ab:=A0_ (Kd.Q_mono (Kd.Q_keep (IsS82.apartQ (show IsS82 w0 _ g s0_0 ao from zIs HI0) (zQ_ ab) (by decide)) hk (fun _ h=>h.2)) (fun _ h=>h.1));replace ae:=A0_ (rM (Kd.R_keep (IsS82.apart (show IsS82 w0 _ g s0_0 ao from zIs HI0) (zR_ ae) (by decide)) hk (fun _ h=>h.2)) (fun _ h=>h.1));replace af:=A0_ (KeepBut.blk hk (g':=aj) (o := .cells #[.slice none 0 0,.slice none 0 0] 25 (0,0)) (zK_ af) az.out (by simp));replace ag:=A0_ (KeepBut.blk hk (g':=am) (o := .cells #[u504000,u504001] 25 (0,0)) (zK_ ag) av.out (by simp));replace HK:=A0_ (KeepBut.trans (zKp HK) hk (.inl rfl));replace HB:=A0_ (hb);replace HI0:=A0_ (hi);(try clear hb);have fW:=aC.out;have fX:=ap.out;have fY:=av.out;have fZ:=au.out;have eV:=zc0 ag;have eW:=zc1 ag;have eX:=kF ag.out 0;have eY:=kF ag.out 1;have cW:0≤(0:Int):=(by omega);have cX:(0:Int)<((aa.length:Int):Int):=zd;have qi101:(0<aa.length)=True:=eq_true (by omega);obtain⟨aT,oo101,aY,df,dg,gl101,cl101,HG101⟩:=Kd.Q_form ab.out (by omega);(first|cases df|(injection df with ea_ en_ ec_;(first|subst ea_|(injection ea_ with ea_;subst ea_));subst ec_;clear en_));have GB101:=A0_ dg;have GG101:=A0_ HG101;clear dg gl101 HG101;obtain⟨bV,bW⟩:=Kd.Q_cell 0 ab.out (0:Int) cW cX;(try rw [show((0:Int)).toNat=0 from rfl] at bV);(try simp only [Nat.reduceMul,Nat.zero_mul,Nat.zero_add,Nat.add_zero,Nat.reduceAdd] at bV);(try rw [show((0:Int)).toNat=0 from rfl] at bW);(try simp only [Nat.reduceMul,Nat.zero_mul,Nat.zero_add,Nat.add_zero,Nat.reduceAdd] at bW);replace cW:=eq_true cW;replace cX:=eq_true cX;obtain⟨hy106_,hz106_⟩:=Kd.Q_cell 0 ab.out (0:Int) (by omega) (zd);(try simp only [Int.reduceToNat,Int.toNat_zero,Int.toNat_ofNat,Nat.reduceMul,Nat.zero_mul,Nat.zero_add,Nat.add_zero] at hy106_ hz106_);(try rw [show((0:Int)).toNat=0 from rfl] at hy106_);(try rw [show((0:Int)).toNat=0 from rfl] at hz106_);have HP106:=Kd.Q_putg ab.out (0:Int) (by omega) (by have h_:(0:Int)<((aa.length:Int):Int):=zd;first|exact h_|(have e_:=(Kd.Q_reads' ab.out).1;omega)|simpa using h_) aw)|((with_reducible refine gS (t:=3) (p:=114) rfl ?_);refine store_event (t:=3) (p:=114) (v := ?vo_w107) (w1:=(dY.setCell ⟨aT,oo101,none⟩ (.int .i64 aw))) ?hg ?ho ?hn ?hr ?_;(case ho=>rfl);(case hg=>rfl);(case hn=>rfl);(case hr=>first|(go_simp;done)|(go_simp;rfl));intro cY hw;have hg:dY.grownBy cY (some aT):=(by rw [hw];exact HP106.2);have hp_:Kd.Q (Kd.int .i64) 3 cY w.heap.size (fun k_=>some k_≠(u504001:Value).ownBlock) (.slice (some ⟨aT,oo101,none⟩) aa.length aY) dX:=(by rw [hw,en.out];exact HP106.1);clear HP106;replace ae:=A0_ (Kd.R_after (v:=(.slice (some ⟨aT,oo101,none⟩) aa.length aY)) (v1:=(.slice (some ⟨aT,oo101,none⟩) aa.length aY)) (ok:=(fun _=>True)) (zmR ae (fun _ hk=>⟨trivial,hk⟩)) hg (.inl rfl));replace af:=A0_ (blk_grown (g:=aj) (o := .cells #[.slice none 0 0,.slice none 0 0] 25 (0,0)) (zK_ af) hg (Kd.Q_ne ab.out af.out (by decide)));replace ag:=A0_ (blk_grown (g:=am) (o := .cells #[.slice (some ⟨aT,oo101,none⟩) aa.length aY,u504001] 25 (0,0)) (zK_ ag) hg (Kd.Q_ne ab.out ag.out (by decide)));replace HI0:=A0_ (IsS82.grown (zIs HI0) hg (IsS82.own_neQ HI0.out ab.out (by decide)));replace HB:=A0_ ((by rw [hw];exact bS (HB.out) (Nat.le_trans HL.out GB101.out):Below w0.heap.size w0 cY));replace HK:=A0_ (KeepBut.trans (zKp HK) (KeepBut.of_grown hg g) (Kd.Q_base2 ab.out));replace ab:=A0_ (hp_);clear hg hw hp_;have eZ:=zc0 ag;have e2:=zc1 ag;have e3:=kF ag.out 0;have e4:=kF ag.out 1;have f2:=az.out;have f3:=aq.out;have e5:=zc0 af;have e6:=zc1 af;have e7:=kF af.out 0;have e8:=kF af.out 1;obtain⟨cl,cm,eo⟩:=rS ae.out;subst eo))
        refine bodyPost_ret (results_cell_row rfl _ _ aj 25 #[.slice (some ⟨aT,oo101,none⟩) aa.length aY,.slice cl ac.length cm] (0,0) _ rfl (by refine zbp (cs := #[.slice (some ⟨aT,oo101,none⟩) aa.length aY,.slice none 0 0]) ?_ 1 _ rfl;refine zbp (cs := #[.slice none 0 0,.slice none 0 0]) ?_ 0 _ rfl;exact zK_ af) Try.underlying25 rfl (by kernel_rfl)) rfl ?_
        exact⟨_,_,by first|rfl|(simp [errW_none,errW_some] <;> rfl)|(simp only [← aX];first|rfl|(simp [errW_none,errW_some] <;> rfl))|(simp [*,errW_none,errW_some] <;> rfl),by(with_reducible repeat(first|apply Kd.Q_alloc|apply Kd.Q_drewN|apply Kd.Q_drew));exact Kd.Q_mono (Kd.Q_far (p:=⟨aj,1,none⟩) (Kd.Q_far (p:=⟨aj,0,none⟩) (Kd.Q_types ab.out af.out (by decide)) (fun _ hk=>hk.2) (.slice (some ⟨aT,oo101,none⟩) aa.length aY)) (fun _ hk=>hk.2) (.slice cl ac.length cm)) (fun _ hk=>hk.1),by(with_reducible repeat(first|apply rA|apply rN|apply rD));exact rM (rF (p:=⟨aj,1,none⟩) (rF (p:=⟨aj,0,none⟩) (rY ae.out af.out (by decide)) (fun _ hk=>hk.2) (.slice (some ⟨aT,oo101,none⟩) aa.length aY)) (fun _ hk=>hk.2) (.slice cl ac.length cm)) (fun _ hk=>hk.1.2),zIs HI0,zBw HB,zKp HK⟩
       rw [if_neg bL] at H
       have el:(aD == 2)=false:=beq_eq_false_iff_ne.mpr bL
       have em:(aD != 2)=true:=bne_iff_ne.mpr bL
       simp only [Option.some.injEq,Prod.mk.injEq] at H;obtain⟨rfl,rfl,rfl⟩:=H
       go_wp2_with (first|((with_reducible refine gC (f:=74) rfl ?_);refine zJ (some 97) Try.func74 #[.pointer (some ⟨g,0,none⟩),.int .i64 50] ?_;(with_reducible refine(s1a_.calls aZ g s0_0 ao 50 aD bb w0 _ ?ax ?ay dc.out).mono ?_);(case ax=>repeat(first|(with_reducible first|exact HI0.out|apply IsS82.alloc|apply IsS82.drewN|apply IsS82.drew|apply IsS82.set_1|refine IsS82.far ?_ aq.out _|refine IsS82.far ?_ au.out _)|exact HI0.out));(case ay=>repeat(first|(with_reducible first|exact HB.out|apply bA|apply bN|apply bD|refine bS ?_ (IsS82.ge HI0.out)|refine bS ?_ aN.out|refine bS ?_ bf.out)|exact HB.out));rintro e hs ⟨rfl,hi,hb,hk⟩;refine⟨_,rfl,?_⟩;replace ab:=A0_ (Kd.Q_mono (Kd.Q_keep (IsS82.apartQ (show IsS82 w0 _ g s0_0 ao from zIs HI0) (zQ_ ab) (by decide)) hk (fun _ h=>h.2)) (fun _ h=>h.1));replace ae:=A0_ (rM (Kd.R_keep (IsS82.apart (show IsS82 w0 _ g s0_0 ao from zIs HI0) (zR_ ae) (by decide)) hk (fun _ h=>h.2)) (fun _ h=>h.1));replace af:=A0_ (KeepBut.blk hk (g':=aj) (o := .cells #[.slice none 0 0,.slice none 0 0] 25 (0,0)) (zK_ af) az.out (by simp));replace ag:=A0_ (KeepBut.blk hk (g':=am) (o := .cells #[u504000,u504001] 25 (0,0)) (zK_ ag) av.out (by simp));replace HK:=A0_ (KeepBut.trans (zKp HK) hk (.inl rfl));replace HB:=A0_ (hb);replace HI0:=A0_ (hi);(try clear hb);have f4:=aC.out;have f5:=ap.out;have f6:=av.out;have f7:=au.out;have e9:=zc0 ag;have fa:=zc1 ag;have fb:=kF ag.out 0;have fc:=kF ag.out 1;obtain⟨bx,bz,ep,_⟩:=Kd.Q_slice ab.out;subst ep;have f8:=az.out;have f9:=aq.out;have fd:=zc0 af;have fe:=zc1 af;have ff:=kF af.out 0;have fg:=kF af.out 1;obtain⟨cn,co,eq⟩:=rS ae.out;subst eq))
       refine bodyPost_ret (results_cell_row rfl _ _ aj 25 #[.slice bx aa.length bz,.slice cn ac.length co] (0,0) _ rfl (by refine zbp (cs := #[.slice bx aa.length bz,.slice none 0 0]) ?_ 1 _ rfl;refine zbp (cs := #[.slice none 0 0,.slice none 0 0]) ?_ 0 _ rfl;exact zK_ af) Try.underlying25 rfl (by kernel_rfl)) rfl ?_
       exact⟨_,_,by first|rfl|(simp [errW_none,errW_some] <;> rfl)|(simp only [← aX];first|rfl|(simp [errW_none,errW_some] <;> rfl))|(simp [*,errW_none,errW_some] <;> rfl),by(with_reducible repeat(first|apply Kd.Q_alloc|apply Kd.Q_drewN|apply Kd.Q_drew));exact Kd.Q_mono (Kd.Q_far (p:=⟨aj,1,none⟩) (Kd.Q_far (p:=⟨aj,0,none⟩) (Kd.Q_types ab.out af.out (by decide)) (fun _ hk=>hk.2) (.slice bx aa.length bz)) (fun _ hk=>hk.2) (.slice cn ac.length co)) (fun _ hk=>hk.1),zF ae af (.slice bx aa.length bz) (.slice cn ac.length co) 0 1,zIs HI0,zBw HB,zKp HK⟩
end Go.Proofs.Ytmegggomhjgehaa.PFnCoverTree
