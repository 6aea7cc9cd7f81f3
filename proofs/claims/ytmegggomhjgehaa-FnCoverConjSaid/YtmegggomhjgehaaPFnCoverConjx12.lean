import Derived.Test.YtmegggomhjgehaaPFnCoverConjx7
import Derived.Test.YtmegggomhjgehaaPFnCoverConjx11
set_option linter.unusedSimpArgs false
namespace Go.Proofs.Ytmegggomhjgehaa.PFnCoverConj
open Go.RowKit Go.Proofs.YtmegggomhjgehaaW.PrintWords Go.Proofs.YtmegggomhjgehaaW.PrintLast Go.Proofs.YtmegggomhjgehaaW.PrintMore
set_option maxHeartbeats 8000000
set_option maxRecDepth 100000
attribute [local go_sem] max2_int min2_int max_two min_two max_three min_three max_four min_four
def i3_.j0:Nat→List (List Int)→Int→List Int→Bool→List Int→List Int→Option ((List (List Int))×Bool)
  | 0,_,_,_,_,_,_=>none
  | k+1,x2,x3,x4,af,aa,ab=>if af=true then (some (([]:List (List Int)),false)) else ((io_.f k aa ab).bind fun ac=>(if 0≤x3 then (if x3<(ac.length:Int) then ((id_.f k aa ab x2 (rd ac x3) x4).bind fun ae=>(some (ae,true))) else (none)) else (none)))
def i3_.f (k:Nat) (aa:List Int) (ab:List Int) (a1:Int) (l2:List (List Int)) (a3:Int) (l4:List Int):Option ((List (List Int))×Bool):=(i9_.f k aa ab a1 l2).bind fun ac=>(if ac=true then (if a3<0 then (i3_.j0 k l2 a3 l4 true aa ab) else (if a3≥(aa.length:Int) then (i3_.j0 k l2 a3 l4 true aa ab) else ((i8_.f l4).bind fun ae=>(if ae=true then (i3_.j0 k l2 a3 l4 ((l4.length:Int) != a1) aa ab) else (i3_.j0 k l2 a3 l4 true aa ab))))) else (i3_.j0 k l2 a3 l4 true aa ab))
def i3_.T3:Bool×List (List Nat×List Nat):=(true,[([],[]),([],[]),([],[]),([2],[2]),([],[]),([3,4],[3,4]),([5],[5]),([],[]),([0,1,6,7,3],[0,1,6,7]),([8,8,0,1,2,3,4,5,6,7,8],[8]),([9,0,1,2,3,4,5,6,7,8,9],[])])
def i3_.B3:List Nat := [0,0,0,4,0,28,60,0,255,511,1023]
theorem i3_.tab3:rtab .any (opsOf Try.f31 3)=i3_.T3:=by kernel_rfl
theorem i3_.bits3:waitsOk i3_.T3.2 i3_.B3=true:=by kernel_rfl
theorem i3_.calls (k:Nat) (ak:Option Addr) (al:Nat) (ab:List Int) (am:Option Addr) (an:Nat) (ac:List Int) (a1:Int) (A2:Option Addr) (c2:Nat) (l2:List (List Int)) (a3:Int) (A4:Option Addr) (c4:Nat) (l4:List Int) (r1:List (List Int)) (r2:Bool) (w:World) (aM:Kd.C (Kd.int .i64) w ak ab.length ab) (aN:ab.length≤al) (aQ:Kd.C (Kd.int .i64) w am ac.length ac) (aT:ac.length≤an) (a9:Kd.C (Kd.slice 3 (Kd.int .i64)) w A2 l2.length l2) (ba:l2.length≤c2) (bb:Kd.C (Kd.int .i64) w A4 l4.length l4) (bc:l4.length≤c4) (h:i3_.f k ab ac a1 l2 a3 l4=some (r1,r2)) :
    Calls Try.prog 31 #[.agg #[.slice ak ab.length al,.slice am ac.length an],.int .i64 a1,.slice A2 l2.length c2,.int .i64 a3,.slice A4 l4.length c4] w fun e w' => ∃ v0_:Value,e = .returned (.tuple #[v0_,.bool r2])∧Kd.S (Kd.slice 3 (Kd.int .i64)) 23 w' w.heap.size (fun _=>True) v0_ r1∧Below w.heap.size w w':=by
 have b6:=Try.underlying25;have ao:=A0_ aM;have ap:=A0_ aN;clear aM aN;have aq:=A0_ aQ;have ar:=A0_ aT;clear aQ aT;have az:=A0_ a9;have aA:=A0_ ba;clear a9 ba;have aX:=A0_ bb;have aY:=A0_ bc;clear bb bc
 have HB:=A0_ (Below.refl w.heap.size w)
 have H:((i9_.f k ab ac a1 l2).bind fun aH=>(if aH=true then (if a3<0 then (i3_.j0 k l2 a3 l4 true ab ac) else (if a3≥(ab.length:Int) then (i3_.j0 k l2 a3 l4 true ab ac) else ((i8_.f l4).bind fun ay=>(if ay=true then (i3_.j0 k l2 a3 l4 ((l4.length:Int) != a1) ab ac) else (i3_.j0 k l2 a3 l4 true ab ac))))) else (i3_.j0 k l2 a3 l4 true ab ac)))=some (r1,r2):=h
 clear h;have aZ:=A0_ H;clear H
 go_enter Try.func31,Try.ntmps31
 go_upto_region 1 with(first|((with_reducible refine gD (N:=5) rfl ?_);refine zX (N:=5) (cs := #[.slice ak ab.length al,.slice am ac.length an]) (t:=25) ?_;intro aE hg w7 hbox hb;have aa:=A0_ (hbox);have bY:=zG hg HB;have b2:=zG hg HB;replace HB:=zB HB hb;clear hb hbox hg))
 (try simp only [Act.put,List.setIfInBounds_toArray,List.set_cons_zero,List.set_cons_succ])
 go_cut [38] (fun v38 wc => ∃ (kq:Nat) (ax:Bool),v38 = .bool ax∧Aside0 (i3_.j0 kq l2 a3 l4 ax ab ac=some (r1,r2))∧Aside0 (kq≤k)∧Aside0 (wc.heap[aE]? = some (.cells #[(.slice ak ab.length al),(.slice am ac.length an)] 25 (0,0)))∧Aside0 (Below w.heap.size w wc))
 case first =>
  have H:=aZ.out;clear aZ;obtain⟨aH,A8,H⟩:=zbind H
  by_cases c9:aH=true
  ·subst c9
   have H1:(if a3<0 then (i3_.j0 k l2 a3 l4 true ab ac) else (if a3≥(ab.length:Int) then (i3_.j0 k l2 a3 l4 true ab ac) else ((i8_.f l4).bind fun ay=>(if ay=true then (i3_.j0 k l2 a3 l4 ((l4.length:Int) != a1) ab ac) else (i3_.j0 k l2 a3 l4 true ab ac)))))=some (r1,r2):=by rw [if_pos rfl] at H;exact H
   clear H;have H:=H1;clear H1
   by_cases aC:a3<0
   ·rw [if_pos aC] at H
    have av:=dT aC;clear aC
    (first|rw [av]|(simp only [i64_w,i32_w];rw [av])|skip)
    have H':=A0_ H;clear H;have bh:=zc0 aa;have bi:=zc1 aa;have bj:=kF aa.out 0;have bk:=kF aa.out 1
    go_wp2_with (first|((with_reducible refine gC (f:=53) rfl ?_);refine zJ (some 15) Try.func53 #[.agg #[.slice ak ab.length al,.slice am ac.length an],.int .i64 a1,.slice A2 l2.length c2] ?_;(with_reducible refine(i9_.calls k _ _ ab _ _ ac a1 _ _ l2 true _ ?ae ?af ?ag ?ah ?ai ?aj A8.out).mono ?_);(case ae=>exact zC ao HB);(case af=>exact ap.out);(case ag=>exact zC aq HB);(case ah=>exact ar.out);(case ai=>exact zC az HB);(case aj=>exact aA.out);rintro e w12 ⟨rfl,hb⟩;refine⟨_,rfl,?_⟩;replace aa:=zK aa hb;replace HB:=zB HB hb;(try clear hb)))
    go_meet
    case rel=>exact⟨_,(true),zt,H',zo,⟨zK_ aa⟩,⟨zB_ HB⟩⟩
   rw [if_neg aC] at H;have av:=dF aC;clear aC
   (first|rw [av]|(simp only [i64_w,i32_w];rw [av])|skip)
   by_cases aD:a3≥(ab.length:Int)
   ·rw [if_pos aD] at H
    have a5:decide ((ab.length:Int)≤a3)=true:=dT aD
    clear aD;have H':=A0_ H;clear H;have bl:=zc0 aa;have bm:=zc1 aa;have bn:=kF aa.out 0;have bo:=kF aa.out 1
    go_wp2_with (first|((with_reducible refine gC (f:=53) rfl ?_);refine zJ (some 15) Try.func53 #[.agg #[.slice ak ab.length al,.slice am ac.length an],.int .i64 a1,.slice A2 l2.length c2] ?_;(with_reducible refine(i9_.calls k _ _ ab _ _ ac a1 _ _ l2 true _ ?ae ?af ?ag ?ah ?ai ?aj A8.out).mono ?_);(case ae=>exact zC ao HB);(case af=>exact ap.out);(case ag=>exact zC aq HB);(case ah=>exact ar.out);(case ai=>exact zC az HB);(case aj=>exact aA.out);rintro e w15 ⟨rfl,hb⟩;refine⟨_,rfl,?_⟩;replace aa:=zK aa hb;replace HB:=zB HB hb;(try clear hb);have bp:=zc0 aa;have bq:=zc1 aa;have br:=kF aa.out 0;have bu:=kF aa.out 1))
    go_meet
    case rel=>exact⟨_,(true),zt,H',zo,⟨zK_ aa⟩,⟨zB_ HB⟩⟩
   rw [if_neg aD] at H
   have a5:decide ((ab.length:Int)≤a3)=false:=dF aD
   clear aD;obtain⟨ay,bd,H⟩:=zbind H
   by_cases aU:ay=true
   ·subst aU
    have H1:(i3_.j0 k l2 a3 l4 ((l4.length:Int) != a1) ab ac)=some (r1,r2):=by rw [if_pos rfl] at H;exact H
    clear H;have H:=H1;clear H1;have H':=A0_ H;clear H;have bv:=zc0 aa;have bw:=zc1 aa;have bx:=kF aa.out 0;have bz:=kF aa.out 1
    go_wp2_with (first|((with_reducible refine gC (f:=53) rfl ?_);refine zJ (some 15) Try.func53 #[.agg #[.slice ak ab.length al,.slice am ac.length an],.int .i64 a1,.slice A2 l2.length c2] ?_;(with_reducible refine(i9_.calls k _ _ ab _ _ ac a1 _ _ l2 true _ ?ae ?af ?ag ?ah ?ai ?aj A8.out).mono ?_);(case ae=>exact zC ao HB);(case af=>exact ap.out);(case ag=>exact zC aq HB);(case ah=>exact ar.out);(case ai=>exact zC az HB);(case aj=>exact aA.out);rintro e w20 ⟨rfl,hb⟩;refine⟨_,rfl,?_⟩;replace aa:=zK aa hb;replace HB:=zB HB hb;(try clear hb);have bB:=zc0 aa;have bC:=zc1 aa;have bE:=kF aa.out 0;have bF:=kF aa.out 1)|(go_at_call 47;(with_reducible refine(i8_.calls _ _ l4 true _ ?ae ?af bd.out).mono ?_);(case ae=>exact zC aX HB);(case af=>exact aY.out);rintro e w22 ⟨rfl,hb⟩;replace aa:=zK aa hb;replace HB:=zB HB hb;(try clear hb)))
    go_meet
    case rel=>exact⟨_,(((l4.length:Int) != a1)),zt,H',zo,⟨zK_ aa⟩,⟨zB_ HB⟩⟩
   replace aU:=Bool.eq_false_iff.mpr aU;subst aU
   have H1:(i3_.j0 k l2 a3 l4 true ab ac)=some (r1,r2):=by rw [if_neg (show ¬ (false=true) by decide)] at H;exact H
   clear H;have H:=H1;clear H1;have H':=A0_ H;clear H;have bG:=zc0 aa;have bH:=zc1 aa;have bI:=kF aa.out 0;have bJ:=kF aa.out 1
   go_wp2_with (first|((with_reducible refine gC (f:=53) rfl ?_);refine zJ (some 15) Try.func53 #[.agg #[.slice ak ab.length al,.slice am ac.length an],.int .i64 a1,.slice A2 l2.length c2] ?_;(with_reducible refine(i9_.calls k _ _ ab _ _ ac a1 _ _ l2 true _ ?ae ?af ?ag ?ah ?ai ?aj A8.out).mono ?_);(case ae=>exact zC ao HB);(case af=>exact ap.out);(case ag=>exact zC aq HB);(case ah=>exact ar.out);(case ai=>exact zC az HB);(case aj=>exact aA.out);rintro e w24 ⟨rfl,hb⟩;refine⟨_,rfl,?_⟩;replace aa:=zK aa hb;replace HB:=zB HB hb;(try clear hb);have bK:=zc0 aa;have bL:=zc1 aa;have bM:=kF aa.out 0;have bO:=kF aa.out 1)|(go_at_call 47;(with_reducible refine(i8_.calls _ _ l4 false _ ?ae ?af bd.out).mono ?_);(case ae=>exact zC aX HB);(case af=>exact aY.out);rintro e w26 ⟨rfl,hb⟩;replace aa:=zK aa hb;replace HB:=zB HB hb;(try clear hb)))
   go_meet
   case rel=>exact⟨_,(true),zt,H',zo,⟨zK_ aa⟩,⟨zB_ HB⟩⟩
  replace c9:=Bool.eq_false_iff.mpr c9;subst c9
  have H1:(i3_.j0 k l2 a3 l4 true ab ac)=some (r1,r2):=by rw [if_neg (show ¬ (false=true) by decide)] at H;exact H
  clear H;have H:=H1;clear H1;have H':=A0_ H;clear H;have bP:=zc0 aa;have bQ:=zc1 aa;have bR:=kF aa.out 0;have bU:=kF aa.out 1
  go_wp2_with (first|((with_reducible refine gC (f:=53) rfl ?_);refine zJ (some 15) Try.func53 #[.agg #[.slice ak ab.length al,.slice am ac.length an],.int .i64 a1,.slice A2 l2.length c2] ?_;(with_reducible refine(i9_.calls k _ _ ab _ _ ac a1 _ _ l2 false _ ?ae ?af ?ag ?ah ?ai ?aj A8.out).mono ?_);(case ae=>exact zC ao HB);(case af=>exact ap.out);(case ag=>exact zC aq HB);(case ah=>exact ar.out);(case ai=>exact zC az HB);(case aj=>exact aA.out);rintro e w28 ⟨rfl,hb⟩;refine⟨_,rfl,?_⟩;replace aa:=zK aa hb;replace HB:=zB HB hb;(try clear hb)))
  go_meet
  case rel=>exact⟨_,(true),zt,H',zo,⟨zK_ aa⟩,⟨zB_ HB⟩⟩
 case rest =>
  clear aZ;(try clear c2);(try clear c4);obtain⟨kq,ax,rfl,HA,cb,aa,HB⟩:=hcut
  cases kq with
  | zero=>exact absurd HA.out (by simp [i3_.j0])
  | succ aV =>
   have H:=HA.out;clear HA;simp only [i3_.j0] at H
   by_cases aW:ax=true
   ·subst aW
    have H1:(some (([]:List (List Int)),false))=some (r1,r2):=by rw [if_pos rfl] at H;exact H
    clear H;have H:=H1;clear H1;simp only [Option.some.injEq,Prod.mk.injEq] at H;obtain⟨rfl,rfl⟩:=H
    go_wp2
    go_ret2
    exact⟨_,by first|rfl|(simp [*] <;> rfl),by first|exact Kd.S_nil _ _ _ _ _|exact Kd.N_nil _ _ _ _ _|exact Kd.V_nil _ _ _ _ _|exact Kd.Q_nil _ _ _ _ _|exact Kd.R_nil _ _ _ _ _,zB_ HB⟩
   replace aW:=Bool.eq_false_iff.mpr aW;subst aW
   have H1:((io_.f aV ab ac).bind fun au=>(if 0≤a3 then (if a3<(au.length:Int) then ((id_.f aV ab ac l2 (rd au a3) l4).bind fun aI=>(some (aI,true))) else (none)) else (none)))=some (r1,r2):=by rw [if_neg (show ¬ (false=true) by decide)] at H;exact H
   clear H;have H:=H1;clear H1;obtain⟨au,bW,H⟩:=zbind H
   have be:=zpc H;replace H:=zph H
   have b3:=dT be;clear be
   have bf:=zpc H;replace H:=zph H
   have b4:=dT bf;clear bf;obtain⟨aI,bX,H⟩:=zbind H;simp only [Option.some.injEq,Prod.mk.injEq] at H;obtain⟨rfl,rfl⟩:=H
   try go_wp2
   replace aa:=A0_ (kD aa.out)
   replace HB:=A0_ (bD HB.out)
   refine start_ (n:=11) (S:=fun w'=>w'.cell? ⟨aE,0,none⟩=some (.slice ak ab.length al)∧w'.cell? ⟨aE,1,none⟩=some (.slice am ac.length an)) (ds := []) (bs 11 0) (by kernel_rfl) rfl rfl ⟨(kC aa.out 0).trans rfl,(kC aa.out 1).trans rfl⟩ (fun hHeld => ?_);refine with_tabW i3_.tab3 i3_.bits3 (fun HT_ HW_ => ?_)
   generalize wc.drew=w34 at aa HB hHeld ⊢
   refine zP 1 (some 40) (bs 11 2) ?_
   refine zP 4 (some 43) (bs 11 18) ?_
   refine zP 7 (some 46) (bs 11 146) ?_
   refine zT 0 (some 39) (bs 11 147) hHeld ?_
   refine zT 2 (some 41) (bs 11 151) hHeld ?_
   refine one_ (i:=3) (N:=some 42) (bs 11 159) rfl rfl (one_of HT_.out (by kernel_rfl)) (by decide) (fun K hK => ?_)
   refine zg Try.func59 #[.agg #[.slice ak ab.length al,.slice am ac.length an]] ?_
   with_reducible refine(io_.calls aV _ _ ab _ _ ac au _ ?ae ?af ?ag ?ah bW.out).mono ?_
   (case ae=>exact zC ao HB)
   (case af=>exact ap.out)
   (case ag=>exact zC aq HB)
   (case ah=>exact ar.out)
   rintro e w35 ⟨b7,rfl,aG,hb⟩
   refine⟨_,rfl,?_⟩
   have aw:=A0_ (rL aG (bZ (zB_ HB)))
   replace aa:=zK aa hb;replace HB:=zB HB hb;(try clear hb);(try clear aG);obtain⟨b8,b9,a4⟩:=rS aw.out
   (first|subst a4|(injection a4 with f1_ f2_ f3_;have f4_:=f1_.symm;have f5_:=f3_.symm;clear f1_ f2_ f3_;subst f4_;subst f5_))
   have aJ:0≤(a3:Int):=zd
   have aK:a3<(au.length:Int):=zd
   obtain⟨b5,bg,bV⟩:=tI (rR aw.out).2.2 a3 aJ aK
   cases bg
   replace aJ:=eq_true aJ;replace aK:=eq_true aK
   refine hK.out _ _ ⟨(kC aa.out 0).trans rfl,(kC aa.out 1).trans rfl⟩ (fun hHeld => ?_)
   clear hK K
   refine zN (some 42) ?_
   refine zP 5 (some 44) (bs 11 191) ?_
   refine zO (i:=6) (N:=some 45) (v := ?_) (a' := ?_) (bs 11 255) rfl rfl (one_of HT_.out (by kernel_rfl)) (by decide) (by rfl) ?_ hHeld ?_ ?_
   rotate_left
   ·go_simp
    with_reducible rfl
   rotate_left
   ·simp only [Act.put,List.setIfInBounds_toArray,List.set_cons_zero,List.set_cons_succ,i64_w,i32_w]
    rfl
   refine one_ (i:=8) (N:=some 47) (bs 11 511) rfl rfl (one_of HT_.out (by kernel_rfl)) (by decide) (fun K hK => ?_)
   refine zg Try.func63 #[.agg #[.slice ak ab.length al,.slice am ac.length an],.slice A2 l2.length c2,.int .i64 (rd au a3),.slice A4 l4.length c4] ?_
   with_reducible refine(id_.calls aV _ _ ab _ _ ac _ _ l2 (rd au a3) _ _ l4 aI _ ?ae ?af ?ag ?ah ?ai ?aj ?a6 ?a7 bX.out).mono ?_
   (case ae=>exact zC ao HB)
   (case af=>exact ap.out)
   (case ag=>exact zC aq HB)
   (case ah=>exact ar.out)
   (case ai=>exact zC az HB)
   (case aj=>exact aA.out)
   (case a6=>exact zC aX HB)
   (case a7=>exact aY.out)
   rintro e w37 ⟨ca,rfl,aG,hb⟩
   refine⟨_,rfl,?_⟩
   have a8:=A0_ (Kd.S_lower (Kd.S_new' aG (rX (zR_ aw))) (bZ (zB_ HB)))
   replace aw:=zR aw hb;replace aa:=zK aa hb;replace HB:=zB HB hb;(try clear hb);(try clear aG)
   refine hK.out _ _ ⟨(kC aa.out 0).trans rfl,(kC aa.out 1).trans rfl⟩ (fun hHeld => ?_)
   clear hK K
   refine zN (some 47) ?_
   refine zP 9 (some 10) (bs 11 1023) ?_
   refine zP 10 (some 11) (bs 11 2047) ?_
   refine done_ (done_of HT_.out (by kernel_rfl)) ?_
   try go_wp2
   go_ret2
   exact⟨_,by first|rfl|(simp [*] <;> rfl),zmS a8 (fun _ hk=>trivial),zB_ HB⟩
mutual
def sz_.j0:Nat→Int→List (List Int)→Bool→Option (Bool)
  | 0,_,_,_=>none
  | k+1,x1,x2,aa=>if aa=true then (some false) else (sz_.l0 k x1 x2 0)
def sz_.l0:Nat→Int→List (List Int)→Int→Option (Bool)
  | 0,_,_,_=>none
  | k+1,x1,x2,x7=>if x7<(x2.length:Int) then (if 0≤x7 then ((sy_.f k (rd_L1 x2 x7)).bind fun aa=>(if aa=true then (if ((rd_L1 x2 x7).length:Int)=x1 then (sz_.l0 k x1 x2 (wrap64 (x7+1))) else (some false)) else (some false))) else (none)) else (some true)
end
def sz_.f (k:Nat) (aa:List Int) (ab:List Int) (a1:Int) (l2:List (List Int)):Option (Bool):=(sx_.f k aa ab).bind fun ac=>(if ac=true then ((s18_.f a1 1 6).bind fun ae=>(if ae=true then (if (wrap64 (a1*(aa.length:Int)))>12 then (sz_.j0 k a1 l2 true) else (sz_.j0 k a1 l2 ((l2.length:Int) != (wrap64 ((ab.length:Int) / 2))))) else (sz_.j0 k a1 l2 true))) else (sz_.j0 k a1 l2 true))
theorem sz_.calls (k:Nat) (ar:Option Addr) (au:Nat) (ae:List Int) (av:Option Addr) (aw:Nat) (af:List Int) (a1:Int) (A2:Option Addr) (c2:Nat) (l2:List (List Int)) (r:Bool) (w:World) (a5:Kd.C (Kd.int .i64) w ar ae.length ae) (a6:ae.length≤au) (a7:Kd.C (Kd.int .i64) w av af.length af) (a8:af.length≤aw) (bk:Kd.C (Kd.slice 3 (Kd.int .i64)) w A2 l2.length l2) (bl:l2.length≤c2) (h:sz_.f k ae af a1 l2=some r) :
    Calls Try.prog 56 #[.agg #[.slice ar ae.length au,.slice av af.length aw],.int .i64 a1,.slice A2 l2.length c2] w fun e w'=>e = .returned (.bool r)∧Below w.heap.size w w':=by
 have b3:=Try.underlying25;have aG:=A0_ a5;have aH:=A0_ a6;clear a5 a6;have aI:=A0_ a7;have aJ:=A0_ a8;clear a7 a8;have aW:=A0_ bk;have b4:=A0_ bl;clear bk bl
 have HB:=A0_ (Below.refl w.heap.size w)
 have H:((sx_.f k ae af).bind fun aY=>(if aY=true then ((s18_.f a1 1 6).bind fun aZ=>(if aZ=true then (if (wrap64 (a1*(ae.length:Int)))>12 then (sz_.j0 k a1 l2 true) else (sz_.j0 k a1 l2 ((l2.length:Int) != (wrap64 ((af.length:Int) / 2))))) else (sz_.j0 k a1 l2 true))) else (sz_.j0 k a1 l2 true)))=some r:=h
 clear h;have bd:=A0_ H;clear H
 go_enter Try.func56,Try.ntmps56
 go_upto_region 1 with(first|((with_reducible refine gD (N:=3) rfl ?_);refine zX (N:=3) (cs := #[.slice ar ae.length au,.slice av af.length aw]) (t:=25) ?_;intro a9 hg w5 hbox hb;have aa:=A0_ (hbox);have bX:=zG hg HB;have bY:=zG hg HB;replace HB:=zB HB hb;clear hb hbox hg))
 (try simp only [Act.put,List.setIfInBounds_toArray,List.set_cons_zero,List.set_cons_succ])
 go_cut [32] (fun v32 wc => ∃ (kq:Nat) (aK:Bool),v32 = .bool aK∧Aside0 (sz_.j0 kq a1 l2 aK=some r)∧Aside0 (kq≤k)∧Aside0 (wc.heap[a9]? = some (.cells #[(.slice ar ae.length au),(.slice av af.length aw)] 25 (0,0)))∧Aside0 (Below w.heap.size w wc))
 case first =>
  have H:=bd.out;clear bd;obtain⟨aY,A6,H⟩:=zbind H
  by_cases c7:aY=true
  ·subst c7
   rw [if_pos rfl] at H;obtain⟨aZ,A8,H⟩:=zbind H
   by_cases c9:aZ=true
   ·subst c9
    rw [if_pos rfl] at H
    by_cases aT:(wrap64 (a1*(ae.length:Int)))>12
    ·rw [if_pos aT] at H
     have aE:decide (12<(wrap64 (a1*(ae.length:Int))))=true:=dT aT
     clear aT
     (first|rw [aE]|(simp only [i64_w,i32_w];rw [aE])|skip)
     have H':=A0_ H;clear H;have br:=zc0 aa;have bu:=zc1 aa;have bv:=kF aa.out 0;have bw:=kF aa.out 1
     go_wp2_with (first|((with_reducible refine gC (f:=57) rfl ?_);refine zJ (some 9) Try.func57 #[.agg #[.slice ar ae.length au,.slice av af.length aw]] ?_;(with_reducible refine(sx_.calls k _ _ ae _ _ af true _ ?ag ?ah ?ax ?ay A6.out).mono ?_);(case ag=>exact zC aG HB);(case ah=>exact aH.out);(case ax=>exact zC aI HB);(case ay=>exact aJ.out);rintro e w12 ⟨rfl,hb⟩;refine⟨_,rfl,?_⟩;replace aa:=zK aa hb;replace HB:=zB HB hb;(try clear hb))|(go_at_call 101;(with_reducible refine(s18_.calls a1 1 6 true _ A8.out).mono ?_);rintro e w' ⟨rfl,⟨nd,rfl⟩⟩;have bx:=zc0 aa;have bz:=zc1 aa;have bB:=kF aa.out 0;have bC:=kF aa.out 1))
     go_meet
     case rel=>exact⟨_,(true),zt,H',zo,⟨zK_ aa⟩,⟨zB_ HB⟩⟩
    rw [if_neg aT] at H
    have aE:decide (12<(wrap64 (a1*(ae.length:Int))))=false:=dF aT
    clear aT
    (first|rw [aE]|(simp only [i64_w,i32_w];rw [aE])|skip)
    have H':=A0_ H;clear H;have bE:=zc0 aa;have bF:=zc1 aa;have bG:=kF aa.out 0;have bH:=kF aa.out 1
    go_wp2_with (first|((with_reducible refine gC (f:=57) rfl ?_);refine zJ (some 9) Try.func57 #[.agg #[.slice ar ae.length au,.slice av af.length aw]] ?_;(with_reducible refine(sx_.calls k _ _ ae _ _ af true _ ?ag ?ah ?ax ?ay A6.out).mono ?_);(case ag=>exact zC aG HB);(case ah=>exact aH.out);(case ax=>exact zC aI HB);(case ay=>exact aJ.out);rintro e w15 ⟨rfl,hb⟩;refine⟨_,rfl,?_⟩;replace aa:=zK aa hb;replace HB:=zB HB hb;(try clear hb))|(go_at_call 101;(with_reducible refine(s18_.calls a1 1 6 true _ A8.out).mono ?_);rintro e w' ⟨rfl,⟨nd,rfl⟩⟩;have bI:=zc0 aa;have bJ:=zc1 aa;have bK:=kF aa.out 0;have bL:=kF aa.out 1))
    go_meet
    case rel=>exact⟨_,(((l2.length:Int) != (wrap64 ((af.length:Int) / 2)))),zt,H',zo,⟨zK_ aa⟩,⟨zB_ HB⟩⟩
   replace c9:=Bool.eq_false_iff.mpr c9;subst c9
   rw [if_neg (show ¬ (false=true) by decide)] at H
   have H':=A0_ H;clear H;have bM:=zc0 aa;have bO:=zc1 aa;have bP:=kF aa.out 0;have bQ:=kF aa.out 1
   go_wp2_with (first|((with_reducible refine gC (f:=57) rfl ?_);refine zJ (some 9) Try.func57 #[.agg #[.slice ar ae.length au,.slice av af.length aw]] ?_;(with_reducible refine(sx_.calls k _ _ ae _ _ af true _ ?ag ?ah ?ax ?ay A6.out).mono ?_);(case ag=>exact zC aG HB);(case ah=>exact aH.out);(case ax=>exact zC aI HB);(case ay=>exact aJ.out);rintro e w18 ⟨rfl,hb⟩;refine⟨_,rfl,?_⟩;replace aa:=zK aa hb;replace HB:=zB HB hb;(try clear hb))|(go_at_call 101;(with_reducible refine(s18_.calls a1 1 6 false _ A8.out).mono ?_);rintro e w' ⟨rfl,⟨nd,rfl⟩⟩))
   go_meet
   case rel=>exact⟨_,(true),zt,H',zo,⟨zK_ aa⟩,⟨zB_ HB⟩⟩
  replace c7:=Bool.eq_false_iff.mpr c7;subst c7
  rw [if_neg (show ¬ (false=true) by decide)] at H
  have H':=A0_ H;clear H;have bR:=zc0 aa;have bU:=zc1 aa;have bV:=kF aa.out 0;have bW:=kF aa.out 1
  go_wp2_with (first|((with_reducible refine gC (f:=57) rfl ?_);refine zJ (some 9) Try.func57 #[.agg #[.slice ar ae.length au,.slice av af.length aw]] ?_;(with_reducible refine(sx_.calls k _ _ ae _ _ af false _ ?ag ?ah ?ax ?ay A6.out).mono ?_);(case ag=>exact zC aG HB);(case ah=>exact aH.out);(case ax=>exact zC aI HB);(case ay=>exact aJ.out);rintro e w20 ⟨rfl,hb⟩;refine⟨_,rfl,?_⟩;replace aa:=zK aa hb;replace HB:=zB HB hb;(try clear hb)))
  go_meet
  case rel=>exact⟨_,(true),zt,H',zo,⟨zK_ aa⟩,⟨zB_ HB⟩⟩
 case rest =>
  clear bd;(try clear c2);obtain⟨kq,aK,rfl,HA,bm,aa,HB⟩:=hcut
  cases kq with
  | zero=>exact absurd HA.out (by simp [sz_.j0])
  | succ bn =>
   have H:=HA.out;clear HA;simp only [sz_.j0] at H
   by_cases aX:aK=true
   ·subst aX
    rw [if_pos rfl] at H;obtain rfl:=sI H
    go_wp2
    go_ret
    exact⟨by first|rfl|(simp [*] <;> rfl),zB_ HB⟩
   replace aX:=Bool.eq_false_iff.mpr aX;subst aX
   rw [if_neg (show ¬ (false=true) by decide)] at H
   have H':=A0_ H;clear H
   go_wp2
   go_loopg [7] bn (fun kq v7 w' => ∃ (ab:Int),v7 = .int .i64 ab∧Aside0 (sz_.l0 kq a1 l2 ab=some r)∧Aside0 (kq≤bn)∧Aside0 (w'.heap[a9]? = some (.cells #[(.slice ar ae.length au),(.slice av af.length aw)] 25 (0,0)))∧Aside0 (Below w.heap.size w w'))
   case atStart=>exact⟨(0),zt,H',⟨Nat.le_refl _⟩,⟨zK_ aa⟩,⟨zB_ HB⟩⟩
   case round =>
    clear H';(try clear c2);(try clear aX);obtain⟨ab,rfl,HA,bo,aa,HB⟩:=hrel
    cases gk with
    | zero=>exact absurd HA.out (by simp [sz_.l0])
    | succ k2 =>
     have H:=HA.out;clear HA;simp only [sz_.l0] at H
     by_cases aU:ab<(l2.length:Int)
     ·rw [if_pos aU] at H
      have bh:=dT aU;clear aU
      have bp:=zpc H;replace H:=zph H
      have b2:=dT bp;clear bp;obtain⟨bq,be,H⟩:=zbind H
      by_cases ba:bq=true
      ·subst ba
       rw [if_pos rfl] at H
       by_cases aN:((rd_L1 l2 ab).length:Int)=a1
       ·rw [if_pos aN] at H
        have bi:(((rd_L1 l2 ab).length:Int) == a1)=true:=beq_iff_eq.mpr aN
        have bj:(((rd_L1 l2 ab).length:Int) != a1)=false:=bne_eq_false_iff_eq.mpr aN
        clear aN;have H':=A0_ H;clear H
        have al:0≤(ab:Int):=zd
        have am:ab<(l2.length:Int):=zd
        obtain⟨aM,az,aA,aQ,ac,aj,ak⟩:=at_L1 aW.out ab al am
        cases aQ
        try replace ac:=(HB.out.cell (wL w _ ac)).trans ac
        have an:=A0_ ak;have ao:=A0_ aj;clear ak aj;replace al:=eq_true al;replace am:=eq_true am
        go_wp2_with (first|((with_reducible refine gC (f:=89) rfl ?_);refine zJ (some 43) Try.func89 #[.slice az (rd_L1 l2 ab).length aA] ?_;(with_reducible refine(sy_.calls k2 _ _ (rd_L1 l2 ab) true _ ?ag ?ah be.out).mono ?_);(case ag=>exact zC an HB);(case ah=>exact ao.out);rintro e w' ⟨rfl,⟨nd,rfl⟩⟩;refine⟨_,rfl,?_⟩;have aC:0≤(ab:Int):=zd;have aD:ab<(l2.length:Int):=zd;obtain⟨aV,bf,bg,a4,ai,ap,aq⟩:=at_L1 aW.out ab aC aD;obtain rfl:aM=aV:=(by injection a4);try replace ai:=(HB.out.cell (wL w _ ai)).trans ai;have bb:=A0_ aq;have bc:=A0_ ap;clear aq ap;replace aC:=eq_true aC;replace aD:=eq_true aD;have ea_:=sI (ac.symm.trans ai);injection ea_ with ea_ en_ ec_;subst ea_;subst ec_;clear en_))
        go_roundg k2
        case measure=>have:=bm.out;have:=bo.out;omega
        case rel=>exact⟨(wrap64 (ab+1)),zt,H',⟨by have:=bm.out;have:=bo.out;omega⟩,⟨zK_ aa⟩,⟨zB_ HB⟩⟩
       rw [if_neg aN] at H
       have bi:(((rd_L1 l2 ab).length:Int) == a1)=false:=beq_eq_false_iff_ne.mpr aN
       have bj:(((rd_L1 l2 ab).length:Int) != a1)=true:=bne_iff_ne.mpr aN
       obtain rfl:=sI H
       have al:0≤(ab:Int):=zd
       have am:ab<(l2.length:Int):=zd
       obtain⟨aM,az,aA,aQ,ac,aj,ak⟩:=at_L1 aW.out ab al am
       cases aQ
       try replace ac:=(HB.out.cell (wL w _ ac)).trans ac
       have an:=A0_ ak;have ao:=A0_ aj;clear ak aj;replace al:=eq_true al;replace am:=eq_true am
       go_wp2_with (first|((with_reducible refine gC (f:=89) rfl ?_);refine zJ (some 43) Try.func89 #[.slice az (rd_L1 l2 ab).length aA] ?_;(with_reducible refine(sy_.calls k2 _ _ (rd_L1 l2 ab) true _ ?ag ?ah be.out).mono ?_);(case ag=>exact zC an HB);(case ah=>exact ao.out);rintro e w' ⟨rfl,⟨nd,rfl⟩⟩;refine⟨_,rfl,?_⟩;have aC:0≤(ab:Int):=zd;have aD:ab<(l2.length:Int):=zd;obtain⟨aV,bf,bg,a4,ai,ap,aq⟩:=at_L1 aW.out ab aC aD;obtain rfl:aM=aV:=(by injection a4);try replace ai:=(HB.out.cell (wL w _ ai)).trans ai;have bb:=A0_ aq;have bc:=A0_ ap;clear aq ap;replace aC:=eq_true aC;replace aD:=eq_true aD;have ea_:=sI (ac.symm.trans ai);injection ea_ with ea_ en_ ec_;subst ea_;subst ec_;clear en_))
       go_ret
       exact⟨by first|rfl|(simp [*] <;> rfl),zB_ HB⟩
      replace ba:=Bool.eq_false_iff.mpr ba;subst ba
      rw [if_neg (show ¬ (false=true) by decide)] at H
      obtain rfl:=sI H
      have al:0≤(ab:Int):=zd
      have am:ab<(l2.length:Int):=zd
      obtain⟨aM,az,aA,aQ,ac,aj,ak⟩:=at_L1 aW.out ab al am
      cases aQ
      try replace ac:=(HB.out.cell (wL w _ ac)).trans ac
      have an:=A0_ ak;have ao:=A0_ aj;clear ak aj;replace al:=eq_true al;replace am:=eq_true am
      go_wp2_with (first|((with_reducible refine gC (f:=89) rfl ?_);refine zJ (some 43) Try.func89 #[.slice az (rd_L1 l2 ab).length aA] ?_;(with_reducible refine(sy_.calls k2 _ _ (rd_L1 l2 ab) false _ ?ag ?ah be.out).mono ?_);(case ag=>exact zC an HB);(case ah=>exact ao.out);rintro e w' ⟨rfl,⟨nd,rfl⟩⟩;refine⟨_,rfl,?_⟩))
      go_ret
      exact⟨by first|rfl|(simp [*] <;> rfl),zB_ HB⟩
     rw [if_neg aU] at H;have bh:=dF aU;clear aU;obtain rfl:=sI H
     go_wp2
     go_ret
     exact⟨by first|rfl|(simp [*] <;> rfl),zB_ HB⟩
def s17_.f (k:Nat) (aa:List Int) (ab:List Int) (a1:Int):Option (Bool):=(sx_.f k aa ab).bind fun ac=>(if ac=true then ((s18_.f a1 0 (wrap64 ((aa.length:Int) - 1))).bind fun ae=>(some ae)) else (some false))
theorem s17_.calls (k:Nat) (ae:Option Addr) (af:Nat) (ab:List Int) (ag:Option Addr) (ah:Nat) (ac:List Int) (a1:Int) (r:Bool) (w:World) (ao:Kd.C (Kd.int .i64) w ae ab.length ab) (ap:ab.length≤af) (aq:Kd.C (Kd.int .i64) w ag ac.length ac) (ar:ac.length≤ah) (h:s17_.f k ab ac a1=some r) :
    Calls Try.prog 88 #[.agg #[.slice ae ab.length af,.slice ag ac.length ah],.int .i64 a1] w fun e w'=>e = .returned (.bool r)∧Below w.heap.size w w':=by
 have aU:=Try.underlying25;have au:=A0_ ao;have av:=A0_ ap;clear ao ap;have aw:=A0_ aq;have ax:=A0_ ar;clear aq ar
 have HB:=A0_ (Below.refl w.heap.size w)
 have H:((sx_.f k ab ac).bind fun am=>(if am=true then ((s18_.f a1 0 (wrap64 ((ab.length:Int) - 1))).bind fun an=>(some an)) else (some false)))=some r:=h
 clear h;obtain⟨am,A3,H⟩:=zbind H
 by_cases c4:am=true
 ·subst c4
  rw [if_pos rfl] at H;obtain⟨an,A5,H⟩:=zbind H;obtain rfl:=sI H
  go_enter Try.func88,Try.ntmps88
  go_wp2_with (first|((with_reducible refine gD (N:=2) rfl ?_);refine zX (N:=2) (cs := #[.slice ae ab.length af,.slice ag ac.length ah]) (t:=25) ?_;intro ay hg w6 hbox hb;have aa:=A0_ (hbox);have az:=zG hg HB;have aA:=zG hg HB;replace HB:=zB HB hb;clear hb hbox hg;have aH:=zc0 aa;have aI:=zc1 aa;have aJ:=kF aa.out 0;have aK:=kF aa.out 1)|((with_reducible refine gC (f:=57) rfl ?_);refine zJ (some 6) Try.func57 #[.agg #[.slice ae ab.length af,.slice ag ac.length ah]] ?_;(with_reducible refine(sx_.calls k _ _ ab _ _ ac true _ ?ai ?aj ?ak ?al A3.out).mono ?_);(case ai=>exact zC au HB);(case aj=>exact av.out);(case ak=>exact zC aw HB);(case al=>exact ax.out);rintro e w8 ⟨rfl,hb⟩;refine⟨_,rfl,?_⟩;replace aa:=zK aa hb;replace HB:=zB HB hb;(try clear hb);have aM:=zc0 aa;have aN:=zc1 aa;have aQ:=kF aa.out 0;have aT:=kF aa.out 1)|(go_at_call 101;(with_reducible refine(s18_.calls a1 0 (wrap64 ((ab.length:Int) - 1)) an _ A5.out).mono ?_);rintro e w' ⟨rfl,⟨nd,rfl⟩⟩))
  go_ret
  exact⟨by first|rfl|(simp [*] <;> rfl),zB_ HB⟩
 replace c4:=Bool.eq_false_iff.mpr c4;subst c4
 rw [if_neg (show ¬ (false=true) by decide)] at H
 obtain rfl:=sI H
 go_enter Try.func88,Try.ntmps88
 go_wp2_with (first|((with_reducible refine gD (N:=2) rfl ?_);refine zX (N:=2) (cs := #[.slice ae ab.length af,.slice ag ac.length ah]) (t:=25) ?_;intro ay hg w10 hbox hb;have aa:=A0_ (hbox);have az:=zG hg HB;have aA:=zG hg HB;replace HB:=zB HB hb;clear hb hbox hg;have aC:=zc0 aa;have aD:=zc1 aa;have aE:=kF aa.out 0;have aG:=kF aa.out 1)|((with_reducible refine gC (f:=57) rfl ?_);refine zJ (some 6) Try.func57 #[.agg #[.slice ae ab.length af,.slice ag ac.length ah]] ?_;(with_reducible refine(sx_.calls k _ _ ab _ _ ac false _ ?ai ?aj ?ak ?al A3.out).mono ?_);(case ai=>exact zC au HB);(case aj=>exact av.out);(case ak=>exact zC aw HB);(case al=>exact ax.out);rintro e w12 ⟨rfl,hb⟩;refine⟨_,rfl,?_⟩;replace aa:=zK aa hb;replace HB:=zB HB hb;(try clear hb)))
 go_ret
 exact⟨by first|rfl|(simp [*] <;> rfl),zB_ HB⟩
def s13_.l0:Nat→List Int→List Int→List Int→Int→Option (List Int)
  | 0,_,_,_,_=>none
  | k+1,x0,x1,x5,x6=>if x6<(x0.length:Int) then (if 0≤x6 then (if 0≤(rd x0 x6) then (if (rd x0 x6)<(x1.length:Int) then (if x5.length<17592186044416 then (s13_.l0 k x0 x1 (x5 ++ [rd x1 (rd x0 x6)]) (wrap64 (x6+1))) else (none)) else (none)) else (none)) else (none)) else (some x5)
def s13_.f (k:Nat) (l0:List Int) (l1:List Int):Option (List Int):=s13_.l0 k l0 l1 (([]:List Int)) 0
theorem s13_.calls (k:Nat) (A0:Option Addr) (c0:Nat) (l0:List Int) (A1:Option Addr) (c1:Nat) (l1:List Int) (r:List Int) (w:World) (av:Kd.C (Kd.int .i64) w A0 l0.length l0) (aw:l0.length≤c0) (ax:Kd.C (Kd.int .i64) w A1 l1.length l1) (ay:l1.length≤c1) (h:s13_.f k l0 l1=some r) :
    Calls Try.prog 82 #[.slice A0 l0.length c0,.slice A1 l1.length c1] w fun e w' => ∃ v0_:Value,e = .returned (v0_)∧Kd.R (Kd.int .i64) 3 w' w.heap.size (fun _=>True) v0_ r∧Below w.heap.size w w':=by
 have aG:=A0_ av;have aU:=A0_ aw;clear av aw;have aH:=A0_ ax;have aV:=A0_ ay;clear ax ay
 have HB:=A0_ (Below.refl w.heap.size w)
 have H:(s13_.l0 k l0 l1 (([]:List Int)) 0)=some r:=h
 clear h
 obtain⟨ao,af⟩ : ∃ y_:List Int,y_=(([]:List Int)):=⟨_,rfl⟩
 replace H:(s13_.l0 k l0 l1 ao 0)=some r:=zH af H
 have an:=A0_ af;clear af;have H':=A0_ H;clear H
 go_enter Try.func82,Try.ntmps82
 go_wp2_with (first|((with_reducible refine gD (N:=7) rfl ?_);refine Kd.R_lit (Kd.int .i64) _ 3 ?hg (N:=7) ?hd (xs:=([]:List Int)) (inner := []) (ok:=fun _=>True) (okp:=fun _=>True) ?hr ?hp (fun _ hk=>hk) trivial (Below.refl _ _) (Nat.le_refl _) (by simp) ?_;(case hd=>rfl);(case hg=>rfl);(case hr=>first|(go_simp;done)|(go_simp;rfl));(case hp=>exact(Reps.none _ _));intro aK w3 ah hb hg_ hnew_;clear hg_ hnew_;(first|rw [← an.out] at ah|(simp only [Int.reduceToNat] at ah;rw [← an.out] at ah));have aq:=A0_ (rL ah (bZ (zB_ HB)));replace HB:=zB HB hb;clear hb ah))
 go_loopg [5,6] k (fun kq v5 v6 w' => ∃ (ae:List Int) (aa:Int),v6 = .int .i64 aa∧Aside0 (s13_.l0 kq l0 l1 ae aa=some r)∧Aside0 (kq≤k)∧Aside0 (Kd.R (Kd.int .i64) 3 w' w.heap.size (fun _=>True) v5 ae)∧Aside0 (Below w.heap.size w w'))
 case atStart=>exact⟨(ao),(0),zt,H',⟨Nat.le_refl _⟩,⟨zR_ aq⟩,⟨zB_ HB⟩⟩
 case round =>
  clear H';(try clear c1);obtain⟨ae,aa,rfl,HA,az,ai,HB⟩:=hrel
  cases gk with
  | zero=>exact absurd HA.out (by simp [s13_.l0])
  | succ k1 =>
   have H:=HA.out;clear HA;simp only [s13_.l0] at H
   by_cases c5:aa<(l0.length:Int)
   ·rw [if_pos c5] at H
    have aA:=dT c5;clear c5
    have c6:=zpc H;replace H:=zph H
    have aM:=dT c6;clear c6
    have c7:=zpc H;replace H:=zph H
    have aN:=dT c7;clear c7
    have c8:=zpc H;replace H:=zph H
    have aQ:=dT c8;clear c8
    have c9:=zpc H;replace H:=zph H
    have aC:=A0_ c9;clear c9
    obtain⟨ap,ag⟩ : ∃ y_:List Int,y_=(ae ++ [rd l1 (rd l0 aa)]):=⟨_,rfl⟩
    replace H:(s13_.l0 k1 l0 l1 ap (wrap64 (aa+1)))=some r:=zH ag H
    have ar:=A0_ ag;clear ag;have H':=A0_ H;clear H
    have aj:0≤(aa:Int):=zd
    have ak:aa<(l0.length:Int):=zd
    obtain⟨aI,aD,ab⟩:=tI aG.out aa aj ak
    cases aD
    try replace ab:=(HB.out.cell (wL w _ ab)).trans ab
    replace aj:=eq_true aj;replace ak:=eq_true ak
    have al:0≤((rd l0 aa):Int):=zd
    have am:(rd l0 aa)<(l1.length:Int):=zd
    obtain⟨aJ,aE,ac⟩:=tI aH.out (rd l0 aa) al am
    cases aE
    try replace ac:=(HB.out.cell (wL w _ ac)).trans ac
    replace al:=eq_true al;replace am:=eq_true am
    go_wp2_with (first|((with_reducible refine gB (b := .append) (xs := #[.tmp 14,.tmp 22]) rfl ?_);at_builtin;refine Kd.R_append (Kd.int .i64) (w0:=w) w.heap.size rfl (.tmp 14) (.tmp 22) 23 3 (.int .i64 0) 8 rfl Try.underlying23 info3 rfl (by decide) (by omega) u5 ae (rd l1 (rd l0 aa)) [.int .i64 (rd l1 (rd l0 aa))] (fun _=>True) (fun _=>False) rfl rfl ?aP (fun _ hk=>hk.elim) ?aF ?aO ?aB ?aS ?aL ?_;(case aP=>exact rfl);(case aB=>exact(zB_ HB));(case aF=>exact(fun _ _=>trivial));(case aO=>exact(zR_ ai));(case aS=>exact(bZ (zB_ HB)));(case aL=>have:=aC.out;omega);intro aT w10 ho hb hg hat;rw [← ar.out] at ho;replace HB:=A0_ (hb);have au:=A0_ (ho);clear ai ho hb hg hat))
    go_roundg k1
    case measure=>have:=az.out;omega
    case rel=>exact⟨(ap),(wrap64 (aa+1)),zt,H',⟨by have:=az.out;omega⟩,⟨zR_ au⟩,⟨zB_ HB⟩⟩
   rw [if_neg c5] at H;have aA:=dF c5;clear c5;obtain rfl:=sI H
   go_wp2
   go_ret
   exact⟨_,by first|rfl|(simp [*] <;> rfl),zR_ ai,zB_ HB⟩
end Go.Proofs.Ytmegggomhjgehaa.PFnCoverConj
