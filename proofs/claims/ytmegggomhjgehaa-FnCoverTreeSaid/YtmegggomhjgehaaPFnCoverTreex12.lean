import Derived.Test.YtmegggomhjgehaaPFnCoverTreex11
namespace Go.Proofs.Ytmegggomhjgehaa.PFnCoverTree
open Go.RowKit Go.Proofs.YtmegggomhjgehaaW.PrintWords Go.Proofs.YtmegggomhjgehaaW.PrintLast Go.Proofs.YtmegggomhjgehaaW.PrintMore
set_option maxHeartbeats 8000000
set_option maxRecDepth 100000
attribute [local go_sem] max2_int min2_int max_two min_two max_three min_three max_four min_four
set_option linter.unusedVariables false
set_option linter.unusedSimpArgs false
def s11_.f (k:Nat) (l0:List Int) (l1:List Int):Option (Bool):=(sy_.f k l0).bind fun aa=>(if aa=true then ((sy_.f k l1).bind fun ab=>(if ab=true then (some ((l0.length:Int) == (l1.length:Int))) else (some false))) else (some false))
theorem s11_.calls (k:Nat) (A0:Option Addr) (c0:Nat) (l0:List Int) (A1:Option Addr) (c1:Nat) (l1:List Int) (r:Bool) (w:World) (ah:Kd.C (Kd.int .i64) w A0 l0.length l0) (ai:l0.length≤c0) (aj:Kd.C (Kd.int .i64) w A1 l1.length l1) (ak:l1.length≤c1) (h:s11_.f k l0 l1=some r) :
    Calls Try.prog 102 #[.slice A0 l0.length c0,.slice A1 l1.length c1] w fun e w'=>e = .returned (.bool r)∧Drawn0 w w':=by
 have af:=A0_ ah;have ag:=A0_ ai;clear ah ai;have al:=A0_ aj;have am:=A0_ ak;clear aj ak
 have H:((sy_.f k l0).bind fun ac=>(if ac=true then ((sy_.f k l1).bind fun ae=>(if ae=true then (some ((l0.length:Int) == (l1.length:Int))) else (some false))) else (some false)))=some r:=h
 clear h;obtain⟨ac,A3,H⟩:=zbind H
 by_cases c4:ac=true
 ·subst c4
  rw [if_pos rfl] at H;obtain⟨ae,A5,H⟩:=zbind H
  by_cases c6:ae=true
  ·subst c6
   rw [if_pos rfl] at H;obtain rfl:=sI H
   go_enter Try.func102,Try.ntmps102
   go_wp2_with (first|((with_reducible refine gC (f:=89) rfl ?_);refine zJ (some 6) Try.func89 #[.slice A0 l0.length c0] ?_;(with_reducible refine(sy_.calls k _ _ l0 true _ ?aa ?ab A3.out).mono ?_);(case aa=>repeat(first|exact af.out|(with_reducible refine cA ?_ _)|(with_reducible refine cN ?_ _)|(with_reducible refine cD ?_)));(case ab=>exact ag.out);rintro e w' ⟨rfl,⟨nd,rfl⟩⟩;refine⟨_,rfl,?_⟩)|(go_at_call 89;(with_reducible refine(sy_.calls k _ _ l1 true _ ?aa ?ab A5.out).mono ?_);(case aa=>repeat(first|exact al.out|(with_reducible refine cA ?_ _)|(with_reducible refine cN ?_ _)|(with_reducible refine cD ?_)));(case ab=>exact am.out);rintro e w' ⟨rfl,⟨nd,rfl⟩⟩))
   go_ret
   exact⟨by first|rfl|(simp;done)|(simp [*];done),by repeat(first|exact Drawn0.refl _|apply Drawn0.step)⟩
  replace c6:=Bool.eq_false_iff.mpr c6;subst c6
  rw [if_neg (show ¬ (false=true) by decide)] at H
  obtain rfl:=sI H
  go_enter Try.func102,Try.ntmps102
  go_wp2_with (first|((with_reducible refine gC (f:=89) rfl ?_);refine zJ (some 6) Try.func89 #[.slice A0 l0.length c0] ?_;(with_reducible refine(sy_.calls k _ _ l0 true _ ?aa ?ab A3.out).mono ?_);(case aa=>repeat(first|exact af.out|(with_reducible refine cA ?_ _)|(with_reducible refine cN ?_ _)|(with_reducible refine cD ?_)));(case ab=>exact ag.out);rintro e w' ⟨rfl,⟨nd,rfl⟩⟩;refine⟨_,rfl,?_⟩)|(go_at_call 89;(with_reducible refine(sy_.calls k _ _ l1 false _ ?aa ?ab A5.out).mono ?_);(case aa=>repeat(first|exact al.out|(with_reducible refine cA ?_ _)|(with_reducible refine cN ?_ _)|(with_reducible refine cD ?_)));(case ab=>exact am.out);rintro e w' ⟨rfl,⟨nd,rfl⟩⟩))
  go_ret
  exact⟨by first|rfl|(simp;done)|(simp [*];done),by repeat(first|exact Drawn0.refl _|apply Drawn0.step)⟩
 replace c4:=Bool.eq_false_iff.mpr c4;subst c4
 rw [if_neg (show ¬ (false=true) by decide)] at H
 obtain rfl:=sI H
 go_enter Try.func102,Try.ntmps102
 go_wp2_with (first|((with_reducible refine gC (f:=89) rfl ?_);refine zJ (some 6) Try.func89 #[.slice A0 l0.length c0] ?_;(with_reducible refine(sy_.calls k _ _ l0 false _ ?aa ?ab A3.out).mono ?_);(case aa=>repeat(first|exact af.out|(with_reducible refine cA ?_ _)|(with_reducible refine cN ?_ _)|(with_reducible refine cD ?_)));(case ab=>exact ag.out);rintro e w' ⟨rfl,⟨nd,rfl⟩⟩;refine⟨_,rfl,?_⟩))
 go_ret
 exact⟨by first|rfl|(simp;done)|(simp [*];done),by repeat(first|exact Drawn0.refl _|apply Drawn0.step)⟩
def s15_.l0:Nat→Int→List Int→Int→Option (List Int)
  | 0,_,_,_=>none
  | k+1,x0,x3,x4=>if x4<x0 then (if x3.length<17592186044416 then (s15_.l0 k x0 (x3 ++ [x4]) (wrap64 (x4+1))) else (none)) else (some x3)
def s15_.f (k:Nat) (a0:Int):Option (List Int):=s15_.l0 k a0 (([]:List Int)) 0
theorem s15_.calls (k:Nat) (a0:Int) (r:List Int) (w:World) (h:s15_.f k a0=some r) :
    Calls Try.prog 79 #[.int .i64 a0] w fun e w' => ∃ v0_:Value,e = .returned (v0_)∧Kd.R (Kd.int .i64) 3 w' w.heap.size (fun _=>True) v0_ r∧Below w.heap.size w w':=by
 have HB:=A0_ (Below.refl w.heap.size w)
 have H:(s15_.l0 k a0 (([]:List Int)) 0)=some r:=h
 clear h
 obtain⟨ai,ac⟩ : ∃ y_:List Int,y_=(([]:List Int)):=⟨_,rfl⟩
 replace H:(s15_.l0 k a0 ai 0)=some r:=zH ac H
 have ah:=A0_ ac;clear ac;have H':=A0_ H;clear H
 go_enter Try.func79,Try.ntmps79
 go_wp2_with (first|((with_reducible refine gD (N:=5) rfl ?_);refine Kd.R_lit (Kd.int .i64) _ 3 ?hg (N:=5) ?hd (xs:=([]:List Int)) (inner := []) (ok:=fun _=>True) (okp:=fun _=>True) ?hr ?hp (fun _ hk=>hk) trivial (Below.refl _ _) (Nat.le_refl _) (by simp) ?_;(case hd=>rfl);(case hg=>rfl);(case hr=>first|(go_simp;done)|(go_simp;rfl));(case hp=>exact(Reps.none _ _));intro aq w2 af hb hg_ hnew_;clear hg_ hnew_;(first|rw [← ah.out] at af|(simp only [Int.reduceToNat] at af;rw [← ah.out] at af));have ak:=A0_ (rL af (bZ (zB_ HB)));replace HB:=zB HB hb;clear hb af))
 go_loopg [3,4] k (fun kq v3 v4 w' => ∃ (ab:List Int) (aa:Int),v4 = .int .i64 aa∧Aside0 (s15_.l0 kq a0 ab aa=some r)∧Aside0 (kq≤k)∧Aside0 (Kd.R (Kd.int .i64) 3 w' w.heap.size (fun _=>True) v3 ab)∧Aside0 (Below w.heap.size w w'))
 case atStart=>exact⟨(ai),(0),zt,H',⟨Nat.le_refl _⟩,⟨zR_ ak⟩,⟨zB_ HB⟩⟩
 case round =>
  clear H';obtain⟨ab,aa,rfl,HA,an,ag,HB⟩:=hrel
  cases gk with
  | zero=>exact absurd HA.out (by simp [s15_.l0])
  | succ k1 =>
   have H:=HA.out;clear HA;simp only [s15_.l0] at H
   by_cases c4:aa<a0
   ·rw [if_pos c4] at H
    have ao:=dT c4;clear c4
    have c5:=zpc H;replace H:=zph H
    have ap:=A0_ c5;clear c5
    obtain⟨aj,ae⟩ : ∃ y_:List Int,y_=(ab ++ [aa]):=⟨_,rfl⟩
    replace H:(s15_.l0 k1 a0 aj (wrap64 (aa+1)))=some r:=zH ae H
    have al:=A0_ ae;clear ae;have H':=A0_ H;clear H
    go_wp2_with (first|((with_reducible refine gB (b := .append) (xs := #[.tmp 11,.tmp 13]) rfl ?_);at_builtin;refine Kd.R_append (Kd.int .i64) (w0:=w) w.heap.size rfl (.tmp 11) (.tmp 13) 23 3 (.int .i64 0) 8 rfl Try.underlying23 info3 rfl (by decide) (by omega) u3 ab aa [.int .i64 aa] (fun _=>True) (fun _=>False) rfl rfl ?aP (fun _ hk=>hk.elim) ?aF ?aO ?aB ?aS ?aL ?_;(case aP=>exact rfl);(case aB=>exact(zB_ HB));(case aF=>exact(fun _ _=>trivial));(case aO=>exact(zR_ ag));(case aS=>exact(bZ (zB_ HB)));(case aL=>have:=ap.out;omega);intro ar w6 ho hb hg hat;rw [← al.out] at ho;replace HB:=A0_ (hb);have am:=A0_ (ho);clear ag ho hb hg hat))
    go_roundg k1
    case measure=>have:=an.out;omega
    case rel=>exact⟨(aj),(wrap64 (aa+1)),zt,H',⟨by have:=an.out;omega⟩,⟨zR_ am⟩,⟨zB_ HB⟩⟩
   rw [if_neg c4] at H;have ao:=dF c4;clear c4;obtain rfl:=sI H
   go_wp2
   go_ret
   exact⟨_,by first|rfl|(simp [*] <;> rfl),zR_ ag,zB_ HB⟩
mutual
def s14_.l0:Nat→List Int→List Int→List Int→Int→Option (List Int)
  | 0,_,_,_,_=>none
  | k+1,x0,x1,x5,x6=>if x6<(x0.length:Int) then (s14_.l1 k x0 x1 x5 x6 0) else (some x5)
def s14_.l1:Nat→List Int→List Int→List Int→Int→Int→Option (List Int)
  | 0,_,_,_,_,_=>none
  | k+1,x0,x1,x5,x6,x7=>if x7<(x0.length:Int) then (if 0≤x7 then (if x7<(x5.length:Int) then (if 0≤(rd x0 x7) then (if (rd x0 x7)<(x5.length:Int) then (if x7<(x1.length:Int) then (if 0≤(rd x1 x7) then (if (rd x1 x7)<(x5.length:Int) then (s14_.l1 k x0 x1 (((x5.set (x7:Int).toNat (mn (rd x5 x7) (mn (rd x5 (rd x0 x7)) (rd x5 (rd x1 x7))))).set ((rd x0 x7):Int).toNat (mn (rd x5 x7) (mn (rd x5 (rd x0 x7)) (rd x5 (rd x1 x7))))).set ((rd x1 x7):Int).toNat (mn (rd x5 x7) (mn (rd x5 (rd x0 x7)) (rd x5 (rd x1 x7))))) x6 (wrap64 (x7+1))) else (none)) else (none)) else (none)) else (none)) else (none)) else (none)) else (none)) else (s14_.l0 k x0 x1 x5 (wrap64 (x6+1)))
end
def s14_.f (k:Nat) (l0:List Int) (l1:List Int):Option (List Int):=(s15_.f k (l0.length:Int)).bind fun aa=>(s14_.l0 k l0 l1 aa 0)
theorem s14_.calls (k:Nat) (A0:Option Addr) (c0:Nat) (l0:List Int) (A1:Option Addr) (c1:Nat) (l1:List Int) (r:List Int) (w:World) (bC:Kd.C (Kd.int .i64) w A0 l0.length l0) (bE:l0.length≤c0) (bF:Kd.C (Kd.int .i64) w A1 l1.length l1) (bG:l1.length≤c1) (h:s14_.f k l0 l1=some r) :
    Calls Try.prog 103 #[.slice A0 l0.length c0,.slice A1 l1.length c1] w fun e w' => ∃ v0_:Value,e = .returned (v0_)∧Kd.R (Kd.int .i64) 3 w' w.heap.size (fun _=>True) v0_ r∧Below w.heap.size w w':=by
 have bl:=A0_ bC;have b7:=A0_ bE;clear bC bE;have bm:=A0_ bF;have b8:=A0_ bG;clear bF bG
 have HB:=A0_ (Below.refl w.heap.size w)
 have H:((s15_.f k (l0.length:Int)).bind fun aE=>(s14_.l0 k l0 l1 aE 0))=some r:=h
 clear h;obtain⟨aE,A3,H⟩:=zbind H;have H':=A0_ H;clear H
 go_enter Try.func103,Try.ntmps103
 go_wp2_with (first|(go_at_call 79;(with_reducible refine(s15_.calls k (l0.length:Int) aE _ A3.out).mono ?_);rintro e w4 ⟨aT,rfl,aI,hb⟩;have aU:=A0_ (rL aI (bZ (zB_ HB)));replace HB:=zB HB hb;(try clear hb);(try clear aI)))
 repeat(go_quiet (first|(go_at_call 79;(with_reducible refine(s15_.calls k (l0.length:Int) aE _ A3.out).mono ?_);rintro e w4 ⟨aT,rfl,aI,hb⟩;have aU:=A0_ (rL aI (bZ (zB_ HB)));replace HB:=zB HB hb;(try clear hb);(try clear aI)));try go_wp2_with (first|(go_at_call 79;(with_reducible refine(s15_.calls k (l0.length:Int) aE _ A3.out).mono ?_);rintro e w4 ⟨aT,rfl,aI,hb⟩;have n0_:=A0_ (rL aI (bZ (zB_ HB)));have n1_:=zB HB hb;clear HB;have aU:=n0_;have HB:=n1_;clear n0_ n1_;(try clear hb);(try clear aI))))
 go_loopg [6] k (fun kq v6 w' => ∃ (aV:List Int) (am:Int),v6 = .int .i64 am∧Aside0 (s14_.l0 kq l0 l1 aV am=some r)∧Aside0 (kq≤k)∧Aside0 (Kd.R (Kd.int .i64) 3 w' w.heap.size (fun _=>True) aT aV)∧Aside0 (Below w.heap.size w w'))
 case atStart=>exact⟨(aE),(0),zt,H',⟨Nat.le_refl _⟩,⟨zR_ aU⟩,⟨zB_ HB⟩⟩
 case round =>
  clear H';(try clear c1);obtain⟨aV,am,rfl,HA,bn,ab,HB⟩:=hrel
  cases gk with
  | zero=>exact absurd HA.out (by simp [s14_.l0])
  | succ k1 =>
   have H:=HA.out;clear HA;simp only [s14_.l0] at H
   by_cases c5:am<(l0.length:Int)
   ·rw [if_pos c5] at H
    have bv:=dT c5;clear c5;have H':=A0_ H;clear H
    go_wp2
    repeat(go_quiet (fail);try go_wp2)
    go_loopg [7] k1 (fun kq v7 w' => ∃ (ac:List Int) (aa:Int),v7 = .int .i64 aa∧Aside0 (s14_.l1 kq l0 l1 ac am aa=some r)∧Aside0 (kq≤k1)∧Aside0 (Kd.R (Kd.int .i64) 3 w' w.heap.size (fun _=>True) aT ac)∧Aside0 (Below w.heap.size w w'))
    case atStart=>exact⟨(aV),(0),zt,H',⟨Nat.le_refl _⟩,⟨zR_ ab⟩,⟨zB_ HB⟩⟩
    case round =>
     clear H';(try clear c1);(try clear c5);(try clear bv);obtain⟨ac,aa,rfl,HA,bo,ab,HB⟩:=hrel
     cases gk with
     | zero=>exact absurd HA.out (by simp [s14_.l1])
     | succ k2 =>
      have H:=HA.out;clear HA;simp only [s14_.l1] at H
      by_cases c6:aa<(l0.length:Int)
      ·rw [if_pos c6] at H
       have bL:=dT c6;clear c6
       have c7:=zpc H;replace H:=zph H
       have b2:=dT c7;clear c7
       have c8:=zpc H;replace H:=zph H
       have b3:=dT c8;clear c8
       have c9:=zpc H;replace H:=zph H
       have b4:=dT c9;clear c9
       have bH:=zpc H;replace H:=zph H
       have bV:=dT bH;clear bH
       have bI:=zpc H;replace H:=zph H
       have bW:=dT bI;clear bI
       have bJ:=zpc H;replace H:=zph H
       have bX:=dT bJ;clear bJ
       have bK:=zpc H;replace H:=zph H
       have bY:=dT bK;clear bK
       obtain⟨aA,ai⟩ : ∃ j_:Int,(mn (rd ac (rd l0 aa)) (rd ac (rd l1 aa)))=j_:=⟨_,rfl⟩
       replace H:(s14_.l1 k2 l0 l1 (((ac.set (aa:Int).toNat (mn (rd ac aa) (aA))).set ((rd l0 aa):Int).toNat (mn (rd ac aa) (aA))).set ((rd l1 aa):Int).toNat (mn (rd ac aa) (aA))) am (wrap64 (aa+1)))=some r:=by first|(rw [ai] at H;exact H)|(simp only [ai] at H ⊢;exact H)
       have hji14_:(if (rd ac (rd l1 aa))<(rd ac (rd l0 aa)) then (rd ac (rd l1 aa)) else (rd ac (rd l0 aa)))=aA:=ai
       obtain⟨ae,aj⟩ : ∃ j_:Int,(mn (rd ac aa) (aA))=j_:=⟨_,rfl⟩
       replace H:(s14_.l1 k2 l0 l1 (((ac.set (aa:Int).toNat (ae)).set ((rd l0 aa):Int).toNat (ae)).set ((rd l1 aa):Int).toNat (ae)) am (wrap64 (aa+1)))=some r:=by first|(rw [aj] at H;exact H)|(simp only [aj] at H ⊢;exact H)
       have hji15_:(if (aA)<(rd ac aa) then (aA) else (rd ac aa))=ae:=aj
       obtain⟨aJ,aW⟩ : ∃ y_:List Int,y_=(ac.set (aa:Int).toNat (ae)):=⟨_,rfl⟩
       replace H:(s14_.l1 k2 l0 l1 ((aJ.set ((rd l0 aa):Int).toNat (ae)).set ((rd l1 aa):Int).toNat (ae)) am (wrap64 (aa+1)))=some r:=zH aW H
       have aX:=A0_ aW;clear aW
       obtain⟨aK,aY⟩ : ∃ y_:List Int,y_=(aJ.set ((rd l0 aa):Int).toNat (ae)):=⟨_,rfl⟩
       replace H:(s14_.l1 k2 l0 l1 (aK.set ((rd l1 aa):Int).toNat (ae)) am (wrap64 (aa+1)))=some r:=zH aY H
       have aZ:=A0_ aY;clear aY
       obtain⟨aM,a3⟩ : ∃ y_:List Int,y_=(aK.set ((rd l1 aa):Int).toNat (ae)):=⟨_,rfl⟩
       replace H:(s14_.l1 k2 l0 l1 aM am (wrap64 (aa+1)))=some r:=zH a3 H
       have a4:=A0_ a3;clear a3;have H':=A0_ H;clear H;obtain⟨b5,ar,bM⟩:=rS ab.out;subst bM
       have bb:0≤(aa:Int):=zd
       have bc:aa<(ac.length:Int):=zd
       obtain⟨bp,bO,bq⟩:=tI (rR ab.out).2.2 aa bb bc
       cases bO
       replace bb:=eq_true bb;replace bc:=eq_true bc
       have bd:0≤(aa:Int):=zd
       have be:aa<(l0.length:Int):=zd
       obtain⟨a5,bP,aG⟩:=tI bl.out aa bd be
       cases bP
       try replace aG:=(HB.out.cell (wL w _ aG)).trans aG
       replace bd:=eq_true bd;replace be:=eq_true be
       have bf:0≤((rd l0 aa):Int):=zd
       have bg:(rd l0 aa)<(ac.length:Int):=zd
       obtain⟨bz,bQ,br⟩:=tI (rR ab.out).2.2 (rd l0 aa) bf bg
       obtain rfl:bp=bz:=(by injection bQ)
       replace bf:=eq_true bf;replace bg:=eq_true bg
       have bh:0≤(aa:Int):=zd
       have bi:aa<(l1.length:Int):=zd
       obtain⟨a6,bR,aH⟩:=tI bm.out aa bh bi
       cases bR
       try replace aH:=(HB.out.cell (wL w _ aH)).trans aH
       replace bh:=eq_true bh;replace bi:=eq_true bi
       have bj:0≤((rd l1 aa):Int):=zd
       have bk:(rd l1 aa)<(ac.length:Int):=zd
       obtain⟨bB,bU,bu⟩:=tI (rR ab.out).2.2 (rd l1 aa) bj bk
       obtain rfl:bp=bB:=(by injection bU)
       replace bj:=eq_true bj;replace bk:=eq_true bk
       have au:0≤(aa:Int):=zd
       have av:(aa:Int)<((ac.length:Int):Int):=zd
       obtain⟨af,b6,bw,bx,gl16,cl16,HG16⟩:=Kd.R_form ab.out (by omega)
       (first|cases bw|(injection bw with ea_ en_ ec_;(first|subst ea_|(injection ea_ with ea_;subst ea_));subst ec_;clear en_))
       have GB16:=A0_ bx;have GG16:=A0_ HG16;clear bx gl16 HG16
       (first|simp only [add_plain] at bq|skip)
       (first|simp only [add_plain] at br|skip)
       (first|simp only [add_plain] at bu|skip)
       obtain⟨ak,al⟩:=Kd.R_celln 0 ab.out (aa:Int) au av
       replace au:=eq_true au;replace av:=eq_true av
       have HP20:=Kd.R_putg ab.out (aa:Int) ae
       go_wp2_with (first|((with_reducible refine gS (t:=3) (p:=47) rfl ?_);(try(rw [drewN_self wr];generalize hq_:World.drewN wr _=wr;have n0_:=A0_ (Kd.R_at hq_ ab.out);have n1_:=A0_ (below_at hq_ HB.out);clear hq_ ab HB;have ab:=n0_;have HB:=n1_;clear n0_ n1_;(try(obtain⟨ak,al⟩:=Kd.R_celln 0 ab.out (aa:Int) (of_eq_true au) (of_eq_true av)));(try(have HP20:=Kd.R_putg ab.out (aa:Int) ae))));refine store_event (t:=3) (p:=47) (v := ?vo_w21) (w1:=(wr.setCell ⟨af,(aa:Int).toNat,none⟩ (.int .i64 ae))) ?hg ?ho ?hn ?hr ?_;(case ho=>rfl);(case hg=>rfl);(case hn=>rfl);(case hr=>first|(go_simp;done)|(go_simp;rfl)|(go_simp;congr 2;rw [← ai];unfold mn;omega)|(go_simp;congr 2;rw [← aj];unfold mn;omega));intro w21 hw;have hg:wr.grownBy w21 (some af):=(by rw [hw];exact HP20.2);have hp_:Kd.R (Kd.int .i64) 3 w21 w.heap.size (fun _=>True) (.slice (some ⟨af,0,none⟩) ac.length ar) aJ:=(by rw [hw,aX.out];exact HP20.1);clear HP20;replace ab:=A0_ (hp_);replace HB:=A0_ ((by rw [hw];exact bS (HB.out) GB16.out:Below w.heap.size w w21));clear hg hw hp_;have an:0≤(aa:Int):=zd;have ao:aa<(l0.length:Int):=zd;obtain⟨aC,aN,ag⟩:=tI bl.out aa an ao;obtain rfl:a5=aC:=(by injection aN);try replace ag:=(HB.out.cell (wL w _ ag)).trans ag;replace an:=eq_true an;replace ao:=eq_true ao;have aw:0≤((rd l0 aa):Int):=zd;have ax:((rd l0 aa):Int)<((ac.length:Int):Int):=zd;obtain⟨a7,a8⟩:=Kd.R_celln 0 ab.out ((rd l0 aa):Int) aw ax;replace aw:=eq_true aw;replace ax:=eq_true ax;obtain⟨hy22_,hz22_⟩:=Kd.R_celln 0 ab.out ((rd l0 aa):Int) (zd) (zd);have HP22:=Kd.R_putg ab.out ((rd l0 aa):Int) ae)|((with_reducible refine gS (t:=3) (p:=54) rfl ?_);(try(rw [drewN_self w21];generalize hq_:World.drewN w21 _=w21;have n0_:=A0_ (Kd.R_at hq_ ab.out);have n1_:=A0_ (below_at hq_ HB.out);clear hq_ ab HB;have ab:=n0_;have HB:=n1_;clear n0_ n1_;(try(obtain⟨ak,al⟩:=Kd.R_celln 0 ab.out (aa:Int) (of_eq_true au) (of_eq_true av)));(try(obtain⟨hy22_,hz22_⟩:=Kd.R_celln 0 ab.out ((rd l0 aa):Int) (zd) (zd)));(try(have HP22:=Kd.R_putg ab.out ((rd l0 aa):Int) ae))));refine store_event (t:=3) (p:=54) (v := ?vo_w23) (w1:=(w21.setCell ⟨af,((rd l0 aa):Int).toNat,none⟩ (.int .i64 ae))) ?hg ?ho ?hn ?hr ?_;(case ho=>rfl);(case hg=>rfl);(case hn=>rfl);(case hr=>first|(go_simp;done)|(go_simp;rfl)|(go_simp;congr 2;rw [← ai];unfold mn;omega)|(go_simp;congr 2;rw [← aj];unfold mn;omega));intro w23 hw;have hg:w21.grownBy w23 (some af):=(by rw [hw];exact HP22.2);have hp_:Kd.R (Kd.int .i64) 3 w23 w.heap.size (fun _=>True) (.slice (some ⟨af,0,none⟩) ac.length ar) aK:=(by rw [hw,aZ.out];exact HP22.1);clear HP22;replace ab:=A0_ (hp_);replace HB:=A0_ ((by rw [hw];exact bS (HB.out) GB16.out:Below w.heap.size w w23));clear hg hw hp_;have ap:0≤(aa:Int):=zd;have aq:aa<(l1.length:Int):=zd;obtain⟨aD,aQ,ah⟩:=tI bm.out aa ap aq;obtain rfl:a6=aD:=(by injection aQ);try replace ah:=(HB.out.cell (wL w _ ah)).trans ah;replace ap:=eq_true ap;replace aq:=eq_true aq;have ay:0≤((rd l1 aa):Int):=zd;have az:((rd l1 aa):Int)<((ac.length:Int):Int):=zd;obtain⟨a9,ba⟩:=Kd.R_celln 0 ab.out ((rd l1 aa):Int) ay az;replace ay:=eq_true ay;replace az:=eq_true az;obtain⟨hy24_,hz24_⟩:=Kd.R_celln 0 ab.out ((rd l1 aa):Int) (zd) (zd);have HP24:=Kd.R_putg ab.out ((rd l1 aa):Int) ae)|((with_reducible refine gS (t:=3) (p:=61) rfl ?_);(try(rw [drewN_self w23];generalize hq_:World.drewN w23 _=w23;have n0_:=A0_ (Kd.R_at hq_ ab.out);have n1_:=A0_ (below_at hq_ HB.out);clear hq_ ab HB;have ab:=n0_;have HB:=n1_;clear n0_ n1_;(try(obtain⟨ak,al⟩:=Kd.R_celln 0 ab.out (aa:Int) (of_eq_true au) (of_eq_true av)));(try(obtain⟨hy24_,hz24_⟩:=Kd.R_celln 0 ab.out ((rd l1 aa):Int) (zd) (zd)));(try(have HP24:=Kd.R_putg ab.out ((rd l1 aa):Int) ae))));refine store_event (t:=3) (p:=61) (v := ?vo_w25) (w1:=(w23.setCell ⟨af,((rd l1 aa):Int).toNat,none⟩ (.int .i64 ae))) ?hg ?ho ?hn ?hr ?_;(case ho=>rfl);(case hg=>rfl);(case hn=>rfl);(case hr=>first|(go_simp;done)|(go_simp;rfl)|(go_simp;congr 2;rw [← ai];unfold mn;omega)|(go_simp;congr 2;rw [← aj];unfold mn;omega));intro w25 hw;have hg:w23.grownBy w25 (some af):=(by rw [hw];exact HP24.2);have hp_:Kd.R (Kd.int .i64) 3 w25 w.heap.size (fun _=>True) (.slice (some ⟨af,0,none⟩) ac.length ar) aM:=(by rw [hw,a4.out];exact HP24.1);clear HP24;replace ab:=A0_ (hp_);replace HB:=A0_ ((by rw [hw];exact bS (HB.out) GB16.out:Below w.heap.size w w25));clear hg hw hp_))
       repeat(go_quiet (first|((with_reducible refine gS (t:=3) (p:=47) rfl ?_);(try(rw [drewN_self wr];generalize hq_:World.drewN wr _=wr;have n0_:=A0_ (Kd.R_at hq_ ab.out);have n1_:=A0_ (below_at hq_ HB.out);clear hq_ ab HB;have ab:=n0_;have HB:=n1_;clear n0_ n1_;(try(obtain⟨ak,al⟩:=Kd.R_celln 0 ab.out (aa:Int) (of_eq_true au) (of_eq_true av)));(try(have HP20:=Kd.R_putg ab.out (aa:Int) ae))));refine store_event (t:=3) (p:=47) (v := ?vo_w21) (w1:=(wr.setCell ⟨af,(aa:Int).toNat,none⟩ (.int .i64 ae))) ?hg ?ho ?hn ?hr ?_;(case ho=>rfl);(case hg=>rfl);(case hn=>rfl);(case hr=>first|(go_simp;done)|(go_simp;rfl)|(go_simp;congr 2;rw [← ai];unfold mn;omega)|(go_simp;congr 2;rw [← aj];unfold mn;omega));intro w21 hw;have hg:wr.grownBy w21 (some af):=(by rw [hw];exact HP20.2);have hp_:Kd.R (Kd.int .i64) 3 w21 w.heap.size (fun _=>True) (.slice (some ⟨af,0,none⟩) ac.length ar) aJ:=(by rw [hw,aX.out];exact HP20.1);clear HP20;replace ab:=A0_ (hp_);replace HB:=A0_ ((by rw [hw];exact bS (HB.out) GB16.out:Below w.heap.size w w21));clear hg hw hp_;have an:0≤(aa:Int):=zd;have ao:aa<(l0.length:Int):=zd;obtain⟨aC,aN,ag⟩:=tI bl.out aa an ao;obtain rfl:a5=aC:=(by injection aN);try replace ag:=(HB.out.cell (wL w _ ag)).trans ag;replace an:=eq_true an;replace ao:=eq_true ao;have aw:0≤((rd l0 aa):Int):=zd;have ax:((rd l0 aa):Int)<((ac.length:Int):Int):=zd;obtain⟨a7,a8⟩:=Kd.R_celln 0 ab.out ((rd l0 aa):Int) aw ax;replace aw:=eq_true aw;replace ax:=eq_true ax;obtain⟨hy22_,hz22_⟩:=Kd.R_celln 0 ab.out ((rd l0 aa):Int) (zd) (zd);have HP22:=Kd.R_putg ab.out ((rd l0 aa):Int) ae)|((with_reducible refine gS (t:=3) (p:=54) rfl ?_);(try(rw [drewN_self w21];generalize hq_:World.drewN w21 _=w21;have n0_:=A0_ (Kd.R_at hq_ ab.out);have n1_:=A0_ (below_at hq_ HB.out);clear hq_ ab HB;have ab:=n0_;have HB:=n1_;clear n0_ n1_;(try(obtain⟨ak,al⟩:=Kd.R_celln 0 ab.out (aa:Int) (of_eq_true au) (of_eq_true av)));(try(obtain⟨hy22_,hz22_⟩:=Kd.R_celln 0 ab.out ((rd l0 aa):Int) (zd) (zd)));(try(have HP22:=Kd.R_putg ab.out ((rd l0 aa):Int) ae))));refine store_event (t:=3) (p:=54) (v := ?vo_w23) (w1:=(w21.setCell ⟨af,((rd l0 aa):Int).toNat,none⟩ (.int .i64 ae))) ?hg ?ho ?hn ?hr ?_;(case ho=>rfl);(case hg=>rfl);(case hn=>rfl);(case hr=>first|(go_simp;done)|(go_simp;rfl)|(go_simp;congr 2;rw [← ai];unfold mn;omega)|(go_simp;congr 2;rw [← aj];unfold mn;omega));intro w23 hw;have hg:w21.grownBy w23 (some af):=(by rw [hw];exact HP22.2);have hp_:Kd.R (Kd.int .i64) 3 w23 w.heap.size (fun _=>True) (.slice (some ⟨af,0,none⟩) ac.length ar) aK:=(by rw [hw,aZ.out];exact HP22.1);clear HP22;replace ab:=A0_ (hp_);replace HB:=A0_ ((by rw [hw];exact bS (HB.out) GB16.out:Below w.heap.size w w23));clear hg hw hp_;have ap:0≤(aa:Int):=zd;have aq:aa<(l1.length:Int):=zd;obtain⟨aD,aQ,ah⟩:=tI bm.out aa ap aq;obtain rfl:a6=aD:=(by injection aQ);try replace ah:=(HB.out.cell (wL w _ ah)).trans ah;replace ap:=eq_true ap;replace aq:=eq_true aq;have ay:0≤((rd l1 aa):Int):=zd;have az:((rd l1 aa):Int)<((ac.length:Int):Int):=zd;obtain⟨a9,ba⟩:=Kd.R_celln 0 ab.out ((rd l1 aa):Int) ay az;replace ay:=eq_true ay;replace az:=eq_true az;obtain⟨hy24_,hz24_⟩:=Kd.R_celln 0 ab.out ((rd l1 aa):Int) (zd) (zd);have HP24:=Kd.R_putg ab.out ((rd l1 aa):Int) ae)|((with_reducible refine gS (t:=3) (p:=61) rfl ?_);(try(rw [drewN_self w23];generalize hq_:World.drewN w23 _=w23;have n0_:=A0_ (Kd.R_at hq_ ab.out);have n1_:=A0_ (below_at hq_ HB.out);clear hq_ ab HB;have ab:=n0_;have HB:=n1_;clear n0_ n1_;(try(obtain⟨ak,al⟩:=Kd.R_celln 0 ab.out (aa:Int) (of_eq_true au) (of_eq_true av)));(try(obtain⟨hy24_,hz24_⟩:=Kd.R_celln 0 ab.out ((rd l1 aa):Int) (zd) (zd)));(try(have HP24:=Kd.R_putg ab.out ((rd l1 aa):Int) ae))));refine store_event (t:=3) (p:=61) (v := ?vo_w25) (w1:=(w23.setCell ⟨af,((rd l1 aa):Int).toNat,none⟩ (.int .i64 ae))) ?hg ?ho ?hn ?hr ?_;(case ho=>rfl);(case hg=>rfl);(case hn=>rfl);(case hr=>first|(go_simp;done)|(go_simp;rfl)|(go_simp;congr 2;rw [← ai];unfold mn;omega)|(go_simp;congr 2;rw [← aj];unfold mn;omega));intro w25 hw;have hg:w23.grownBy w25 (some af):=(by rw [hw];exact HP24.2);have hp_:Kd.R (Kd.int .i64) 3 w25 w.heap.size (fun _=>True) (.slice (some ⟨af,0,none⟩) ac.length ar) aM:=(by rw [hw,a4.out];exact HP24.1);clear HP24;replace ab:=A0_ (hp_);replace HB:=A0_ ((by rw [hw];exact bS (HB.out) GB16.out:Below w.heap.size w w25));clear hg hw hp_));try go_wp2_with (first|((with_reducible refine gS (t:=3) (p:=47) rfl ?_);(try(rw [drewN_self wr];generalize hq_:World.drewN wr _=wr;have n0_:=A0_ (Kd.R_at hq_ ab.out);have n1_:=A0_ (below_at hq_ HB.out);clear hq_ ab HB;have ab:=n0_;have HB:=n1_;clear n0_ n1_;(try(obtain⟨ak,al⟩:=Kd.R_celln 0 ab.out (aa:Int) (of_eq_true au) (of_eq_true av)));(try(have HP20:=Kd.R_putg ab.out (aa:Int) ae))));refine store_event (t:=3) (p:=47) (v := ?vo_w21) (w1:=(wr.setCell ⟨af,(aa:Int).toNat,none⟩ (.int .i64 ae))) ?hg ?ho ?hn ?hr ?_;(case ho=>rfl);(case hg=>rfl);(case hn=>rfl);(case hr=>first|(go_simp;done)|(go_simp;rfl)|(go_simp;congr 2;rw [← ai];unfold mn;omega)|(go_simp;congr 2;rw [← aj];unfold mn;omega));intro w21 hw;have hg:wr.grownBy w21 (some af):=(by rw [hw];exact HP20.2);have hp_:Kd.R (Kd.int .i64) 3 w21 w.heap.size (fun _=>True) (.slice (some ⟨af,0,none⟩) ac.length ar) aJ:=(by rw [hw,aX.out];exact HP20.1);clear HP20;have n0_:=A0_ (hp_);have n1_:=A0_ ((by rw [hw];exact bS (HB.out) GB16.out:Below w.heap.size w w21));clear ab HB;have ab:=n0_;have HB:=n1_;clear n0_ n1_ hg hw hp_;have an:0≤(aa:Int):=zd;have ao:aa<(l0.length:Int):=zd;obtain⟨aC,aN,ag⟩:=tI bl.out aa an ao;obtain rfl:a5=aC:=(by injection aN);try replace ag:=(HB.out.cell (wL w _ ag)).trans ag;replace an:=eq_true an;replace ao:=eq_true ao;have aw:0≤((rd l0 aa):Int):=zd;have ax:((rd l0 aa):Int)<((ac.length:Int):Int):=zd;obtain⟨a7,a8⟩:=Kd.R_celln 0 ab.out ((rd l0 aa):Int) aw ax;replace aw:=eq_true aw;replace ax:=eq_true ax;obtain⟨hy22_,hz22_⟩:=Kd.R_celln 0 ab.out ((rd l0 aa):Int) (zd) (zd);have HP22:=Kd.R_putg ab.out ((rd l0 aa):Int) ae)|((with_reducible refine gS (t:=3) (p:=54) rfl ?_);(try(rw [drewN_self w21];generalize hq_:World.drewN w21 _=w21;have n0_:=A0_ (Kd.R_at hq_ ab.out);have n1_:=A0_ (below_at hq_ HB.out);clear hq_ ab HB;have ab:=n0_;have HB:=n1_;clear n0_ n1_;(try(obtain⟨ak,al⟩:=Kd.R_celln 0 ab.out (aa:Int) (of_eq_true au) (of_eq_true av)));(try(obtain⟨hy22_,hz22_⟩:=Kd.R_celln 0 ab.out ((rd l0 aa):Int) (zd) (zd)));(try(have HP22:=Kd.R_putg ab.out ((rd l0 aa):Int) ae))));refine store_event (t:=3) (p:=54) (v := ?vo_w23) (w1:=(w21.setCell ⟨af,((rd l0 aa):Int).toNat,none⟩ (.int .i64 ae))) ?hg ?ho ?hn ?hr ?_;(case ho=>rfl);(case hg=>rfl);(case hn=>rfl);(case hr=>first|(go_simp;done)|(go_simp;rfl)|(go_simp;congr 2;rw [← ai];unfold mn;omega)|(go_simp;congr 2;rw [← aj];unfold mn;omega));intro w23 hw;have hg:w21.grownBy w23 (some af):=(by rw [hw];exact HP22.2);have hp_:Kd.R (Kd.int .i64) 3 w23 w.heap.size (fun _=>True) (.slice (some ⟨af,0,none⟩) ac.length ar) aK:=(by rw [hw,aZ.out];exact HP22.1);clear HP22;have n0_:=A0_ (hp_);have n1_:=A0_ ((by rw [hw];exact bS (HB.out) GB16.out:Below w.heap.size w w23));clear ab HB;have ab:=n0_;have HB:=n1_;clear n0_ n1_ hg hw hp_;have ap:0≤(aa:Int):=zd;have aq:aa<(l1.length:Int):=zd;obtain⟨aD,aQ,ah⟩:=tI bm.out aa ap aq;obtain rfl:a6=aD:=(by injection aQ);try replace ah:=(HB.out.cell (wL w _ ah)).trans ah;replace ap:=eq_true ap;replace aq:=eq_true aq;have ay:0≤((rd l1 aa):Int):=zd;have az:((rd l1 aa):Int)<((ac.length:Int):Int):=zd;obtain⟨a9,ba⟩:=Kd.R_celln 0 ab.out ((rd l1 aa):Int) ay az;replace ay:=eq_true ay;replace az:=eq_true az;obtain⟨hy24_,hz24_⟩:=Kd.R_celln 0 ab.out ((rd l1 aa):Int) (zd) (zd);have HP24:=Kd.R_putg ab.out ((rd l1 aa):Int) ae)|((with_reducible refine gS (t:=3) (p:=61) rfl ?_);(try(rw [drewN_self w23];generalize hq_:World.drewN w23 _=w23;have n0_:=A0_ (Kd.R_at hq_ ab.out);have n1_:=A0_ (below_at hq_ HB.out);clear hq_ ab HB;have ab:=n0_;have HB:=n1_;clear n0_ n1_;(try(obtain⟨ak,al⟩:=Kd.R_celln 0 ab.out (aa:Int) (of_eq_true au) (of_eq_true av)));(try(obtain⟨hy24_,hz24_⟩:=Kd.R_celln 0 ab.out ((rd l1 aa):Int) (zd) (zd)));(try(have HP24:=Kd.R_putg ab.out ((rd l1 aa):Int) ae))));refine store_event (t:=3) (p:=61) (v := ?vo_w25) (w1:=(w23.setCell ⟨af,((rd l1 aa):Int).toNat,none⟩ (.int .i64 ae))) ?hg ?ho ?hn ?hr ?_;(case ho=>rfl);(case hg=>rfl);(case hn=>rfl);(case hr=>first|(go_simp;done)|(go_simp;rfl)|(go_simp;congr 2;rw [← ai];unfold mn;omega)|(go_simp;congr 2;rw [← aj];unfold mn;omega));intro w25 hw;have hg:w23.grownBy w25 (some af):=(by rw [hw];exact HP24.2);have hp_:Kd.R (Kd.int .i64) 3 w25 w.heap.size (fun _=>True) (.slice (some ⟨af,0,none⟩) ac.length ar) aM:=(by rw [hw,a4.out];exact HP24.1);clear HP24;have n0_:=A0_ (hp_);have n1_:=A0_ ((by rw [hw];exact bS (HB.out) GB16.out:Below w.heap.size w w25));clear ab HB;have ab:=n0_;have HB:=n1_;clear n0_ n1_ hg hw hp_)))
       go_roundg k2
       case measure=>have:=bn.out;have:=bo.out;omega
       case rel=>exact⟨(aM),(wrap64 (aa+1)),zt,H',⟨by have:=bn.out;have:=bo.out;omega⟩,⟨zR_ ab⟩,⟨zB_ HB⟩⟩
      rw [if_neg c6] at H;have bL:=dF c6;clear c6;have H':=A0_ H;clear H
      go_wp2
      repeat(go_quiet (fail);try go_wp2)
      go_roundg k2
      case measure=>have:=bn.out;have:=bo.out;omega
      case rel=>exact⟨(ac),(wrap64 (am+1)),zt,H',⟨by have:=bn.out;have:=bo.out;omega⟩,⟨zR_ ab⟩,⟨zB_ HB⟩⟩
   rw [if_neg c5] at H;have bv:=dF c5;clear c5;obtain rfl:=sI H
   go_wp2
   repeat(go_quiet (fail);try go_wp2)
   go_ret
   exact⟨_,by first|rfl|(simp [*] <;> rfl),zR_ ab,zB_ HB⟩
mutual
def sx_.l0:Nat→Int→List Int→List Int→Option (Bool)
  | 0,_,_,_=>none
  | k+1,x3,ab,aa=>if x3<(aa.length:Int) then (if 0≤x3 then (if (rd aa x3)=x3 then (some false) else (if 0≤(rd aa x3) then (if (rd aa x3)<(aa.length:Int) then (if (rd aa (rd aa x3))=x3 then (sx_.l0 k (wrap64 (x3+1)) ab aa) else (some false)) else (none)) else (none))) else (none)) else ((s14_.f k ab aa).bind fun ac=>(sx_.l1 k ac 0))
def sx_.l1:Nat→List Int→Int→Option (Bool)
  | 0,_,_=>none
  | k+1,x4,x5=>if x5<(x4.length:Int) then (if 0≤x5 then (if (rd x4 x5)=0 then (sx_.l1 k x4 (wrap64 (x5+1))) else (some false)) else (none)) else (some true)
end
def sx_.f (k:Nat) (aa:List Int) (ab:List Int):Option (Bool):=(s11_.f k aa ab).bind fun ac=>(if ac=true then (sx_.l0 k 0 aa ab) else (some false))
theorem sx_.calls (k:Nat) (aw:Option Addr) (ax:Nat) (ae:List Int) (ay:Option Addr) (az:Nat) (ab:List Int) (r:Bool) (w:World) (bg:Kd.C (Kd.int .i64) w aw ae.length ae) (bh:ae.length≤ax) (bi:Kd.C (Kd.int .i64) w ay ab.length ab) (bj:ab.length≤az) (h:sx_.f k ae ab=some r) :
    Calls Try.prog 57 #[.agg #[.slice aw ae.length ax,.slice ay ab.length az]] w fun e w'=>e = .returned (.bool r)∧Below w.heap.size w w':=by
 have b7:=Try.underlying25;have ap:=A0_ bg;have aq:=A0_ bh;clear bg bh;have aj:=A0_ bi;have ar:=A0_ bj;clear bi bj
 have HB:=A0_ (Below.refl w.heap.size w)
 have H:((s11_.f k ae ab).bind fun bb=>(if bb=true then (sx_.l0 k 0 ae ab) else (some false)))=some r:=h
 clear h;obtain⟨bb,A2,H⟩:=zbind H
 by_cases c3:bb=true
 ·subst c3
  rw [if_pos rfl] at H;have H':=A0_ H;clear H
  go_enter Try.func57,Try.ntmps57
  go_wp2_with (first|((with_reducible refine gD (N:=1) rfl ?_);refine zX (N:=1) (cs := #[.slice aw ae.length ax,.slice ay ab.length az]) (t:=25) ?_;intro aA hg w4 hbox hb;have aa:=A0_ (hbox);have aK:=zG hg HB;have aM:=zG hg HB;replace HB:=zB HB hb;clear hb hbox hg;have aN:=zc0 aa;have aQ:=zc1 aa;have aT:=kF aa.out 0;have aU:=kF aa.out 1)|(go_at_call 102;(with_reducible refine(s11_.calls k _ _ ae _ _ ab true _ ?af ?ag ?ah ?ai A2.out).mono ?_);(case af=>exact zC ap HB);(case ag=>exact aq.out);(case ah=>exact zC aj HB);(case ai=>exact ar.out);rintro e w' ⟨rfl,⟨nd,rfl⟩⟩;(try first|exact⟨rfl,_,World.drewN_drewN _ _ _⟩|exact⟨rfl,_,Eq.trans (World.drewN_drewN _ _ _) (congrArg (World.drewN _) (Nat.add_assoc _ _ _))⟩)))
  repeat(go_quiet (first|((with_reducible refine gD (N:=1) rfl ?_);refine zX (N:=1) (cs := #[.slice aw ae.length ax,.slice ay ab.length az]) (t:=25) ?_;intro aA hg w4 hbox hb;have aa:=A0_ (hbox);have aK:=zG hg HB;have aM:=zG hg HB;replace HB:=zB HB hb;clear hb hbox hg;have aN:=zc0 aa;have aQ:=zc1 aa;have aT:=kF aa.out 0;have aU:=kF aa.out 1)|(go_at_call 102;(with_reducible refine(s11_.calls k _ _ ae _ _ ab true _ ?af ?ag ?ah ?ai A2.out).mono ?_);(case af=>exact zC ap HB);(case ag=>exact aq.out);(case ah=>exact zC aj HB);(case ai=>exact ar.out);rintro e w' ⟨rfl,⟨nd,rfl⟩⟩;(try first|exact⟨rfl,_,World.drewN_drewN _ _ _⟩|exact⟨rfl,_,Eq.trans (World.drewN_drewN _ _ _) (congrArg (World.drewN _) (Nat.add_assoc _ _ _))⟩)));try go_wp2_with (first|((with_reducible refine gD (N:=1) rfl ?_);refine zX (N:=1) (cs := #[.slice aw ae.length ax,.slice ay ab.length az]) (t:=25) ?_;intro aA hg w4 hbox hb;have n0_:=zB HB hb;have n1_:=A0_ (hbox);have n2_:=zG hg HB;have n3_:=zG hg HB;clear HB;have HB:=n0_;have aa:=n1_;have aK:=n2_;have aM:=n3_;clear n0_ n1_ n2_ n3_ hb hbox hg;have aN:=zc0 aa;have aQ:=zc1 aa;have aT:=kF aa.out 0;have aU:=kF aa.out 1)|(go_at_call 102;(with_reducible refine(s11_.calls k _ _ ae _ _ ab true _ ?af ?ag ?ah ?ai A2.out).mono ?_);(case af=>exact zC ap HB);(case ag=>exact aq.out);(case ah=>exact zC aj HB);(case ai=>exact ar.out);rintro e w' ⟨rfl,⟨nd,rfl⟩⟩;(try first|exact⟨rfl,_,World.drewN_drewN _ _ _⟩|exact⟨rfl,_,Eq.trans (World.drewN_drewN _ _ _) (congrArg (World.drewN _) (Nat.add_assoc _ _ _))⟩))))
  go_loopg [3] k (fun kq v3 w' => ∃ (ac:Int),v3 = .int .i64 ac∧Aside0 (sx_.l0 kq ac ae ab=some r)∧Aside0 (kq≤k)∧Aside0 (w'.heap[aA]? = some (.cells #[(.slice aw ae.length ax),(.slice ay ab.length az)] 25 (0,0)))∧Aside0 (Below w.heap.size w w'))
  case atStart=>exact⟨(0),zt,H',⟨Nat.le_refl _⟩,⟨zK_ aa⟩,⟨zB_ HB⟩⟩
  case round =>
   clear H';(try clear c3);(try clear aN);(try clear aQ);(try clear aT);(try clear aU);obtain⟨ac,rfl,HA,bk,aa,HB⟩:=hrel
   cases gk with
   | zero=>exact absurd HA.out (by simp [sx_.l0])
   | succ k1 =>
    have H:=HA.out;clear HA;simp only [sx_.l0] at H
    by_cases c6:ac<(ab.length:Int)
    ·rw [if_pos c6] at H
     have bq:=dT c6;clear c6
     have c7:=zpc H;replace H:=zph H
     have b8:=dT c7;clear c7
     by_cases c8:(rd ab ac)=ac
     ·rw [if_pos c8] at H
      have bH:((rd ab ac) == ac)=true:=beq_iff_eq.mpr c8
      have bI:((rd ab ac) != ac)=false:=bne_eq_false_iff_eq.mpr c8
      clear c8;obtain rfl:=sI H;have bX:=zc0 aa;have bY:=zc1 aa;have b2:=kF aa.out 0;have b3:=kF aa.out 1
      have au:0≤(ac:Int):=zd
      have av:ac<(ab.length:Int):=zd
      obtain⟨aC,aX,ak⟩:=tI aj.out ac au av
      cases aX
      try replace ak:=(HB.out.cell (wL w _ ak)).trans ak
      replace au:=eq_true au;replace av:=eq_true av
      go_wp2
      repeat(go_quiet (fail);try go_wp2)
      go_ret
      exact⟨by first|rfl|(simp [*] <;> rfl),zB_ HB⟩
     rw [if_neg c8] at H
     have bH:((rd ab ac) == ac)=false:=beq_eq_false_iff_ne.mpr c8
     have bI:((rd ab ac) != ac)=true:=bne_iff_ne.mpr c8
     have bC:=zpc H;replace H:=zph H
     have b4:=dT bC;clear bC
     have bE:=zpc H;replace H:=zph H
     have b5:=dT bE;clear bE
     by_cases aY:(rd ab (rd ab ac))=ac
     ·rw [if_pos aY] at H
      have bu:((rd ab (rd ab ac)) == ac)=true:=beq_iff_eq.mpr aY
      have bv:((rd ab (rd ab ac)) != ac)=false:=bne_eq_false_iff_eq.mpr aY
      clear aY;have H':=A0_ H;clear H;have bM:=zc0 aa;have bO:=zc1 aa;have bP:=kF aa.out 0;have bQ:=kF aa.out 1
      have au:0≤(ac:Int):=zd
      have av:ac<(ab.length:Int):=zd
      obtain⟨aC,aX,ak⟩:=tI aj.out ac au av
      cases aX
      try replace ak:=(HB.out.cell (wL w _ ak)).trans ak
      replace au:=eq_true au;replace av:=eq_true av
      have aD:0≤(ac:Int):=zd
      have aE:ac<(ab.length:Int):=zd
      obtain⟨a8,bc,am⟩:=tI aj.out ac aD aE
      obtain rfl:aC=a8:=(by injection bc)
      try replace am:=(HB.out.cell (wL w _ am)).trans am
      replace aD:=eq_true aD;replace aE:=eq_true aE
      have aG:0≤((rd ab ac):Int):=zd
      have aH:(rd ab ac)<(ab.length:Int):=zd
      obtain⟨a9,bd,an⟩:=tI aj.out (rd ab ac) aG aH
      obtain rfl:aC=a9:=(by injection bd)
      try replace an:=(HB.out.cell (wL w _ an)).trans an
      replace aG:=eq_true aG;replace aH:=eq_true aH
      go_wp2
      repeat(go_quiet (fail);try go_wp2)
      go_roundg k1
      case measure=>have:=bk.out;omega
      case rel=>exact⟨(wrap64 (ac+1)),zt,H',⟨by have:=bk.out;omega⟩,⟨zK_ aa⟩,⟨zB_ HB⟩⟩
     rw [if_neg aY] at H
     have bu:((rd ab (rd ab ac)) == ac)=false:=beq_eq_false_iff_ne.mpr aY
     have bv:((rd ab (rd ab ac)) != ac)=true:=bne_iff_ne.mpr aY
     obtain rfl:=sI H;have bR:=zc0 aa;have bU:=zc1 aa;have bV:=kF aa.out 0;have bW:=kF aa.out 1
     have au:0≤(ac:Int):=zd
     have av:ac<(ab.length:Int):=zd
     obtain⟨aC,aX,ak⟩:=tI aj.out ac au av
     cases aX
     try replace ak:=(HB.out.cell (wL w _ ak)).trans ak
     replace au:=eq_true au;replace av:=eq_true av
     have aD:0≤(ac:Int):=zd
     have aE:ac<(ab.length:Int):=zd
     obtain⟨a8,bc,am⟩:=tI aj.out ac aD aE
     obtain rfl:aC=a8:=(by injection bc)
     try replace am:=(HB.out.cell (wL w _ am)).trans am
     replace aD:=eq_true aD;replace aE:=eq_true aE
     have aG:0≤((rd ab ac):Int):=zd
     have aH:(rd ab ac)<(ab.length:Int):=zd
     obtain⟨a9,bd,an⟩:=tI aj.out (rd ab ac) aG aH
     obtain rfl:aC=a9:=(by injection bd)
     try replace an:=(HB.out.cell (wL w _ an)).trans an
     replace aG:=eq_true aG;replace aH:=eq_true aH
     go_wp2
     repeat(go_quiet (fail);try go_wp2)
     go_ret
     exact⟨by first|rfl|(simp [*] <;> rfl),zB_ HB⟩
    rw [if_neg c6] at H;have bq:=dF c6;clear c6;obtain⟨ao,br,H⟩:=zbind H;have H':=A0_ H;clear H;have bl:=zc0 aa;have bm:=zc1 aa;have bn:=kF aa.out 0;have bo:=kF aa.out 1
    go_wp2_with (first|(go_at_call 103;(with_reducible refine(s14_.calls k1 _ _ ae _ _ ab ao _ ?af ?ag ?ah ?ai br.out).mono ?_);(case af=>exact zC ap HB);(case ag=>exact aq.out);(case ah=>exact zC aj HB);(case ai=>exact ar.out);rintro e w17 ⟨be,rfl,aW,hb⟩;have ba:=A0_ (rL aW (bZ (zB_ HB)));replace aa:=zK aa hb;replace HB:=zB HB hb;(try clear hb);(try clear aW)))
    repeat(go_quiet (first|(go_at_call 103;(with_reducible refine(s14_.calls k1 _ _ ae _ _ ab ao _ ?af ?ag ?ah ?ai br.out).mono ?_);(case af=>exact zC ap HB);(case ag=>exact aq.out);(case ah=>exact zC aj HB);(case ai=>exact ar.out);rintro e w17 ⟨be,rfl,aW,hb⟩;have ba:=A0_ (rL aW (bZ (zB_ HB)));replace aa:=zK aa hb;replace HB:=zB HB hb;(try clear hb);(try clear aW)));try go_wp2_with (first|(go_at_call 103;(with_reducible refine(s14_.calls k1 _ _ ae _ _ ab ao _ ?af ?ag ?ah ?ai br.out).mono ?_);(case af=>exact zC ap HB);(case ag=>exact aq.out);(case ah=>exact zC aj HB);(case ai=>exact ar.out);rintro e w17 ⟨be,rfl,aW,hb⟩;have n0_:=A0_ (rL aW (bZ (zB_ HB)));have n1_:=zK aa hb;have n2_:=zB HB hb;clear aa HB;have ba:=n0_;have aa:=n1_;have HB:=n2_;clear n0_ n1_ n2_;(try clear hb);(try clear aW))))
    go_loopg [5] k1 (fun kq v5 w' => ∃ (al:Int),v5 = .int .i64 al∧Aside0 (sx_.l1 kq ao al=some r)∧Aside0 (kq≤k1)∧Aside0 (Kd.R (Kd.int .i64) 3 w' w.heap.size (fun _=>True) be ao)∧Aside0 (w'.heap[aA]? = some (.cells #[(.slice aw ae.length ax),(.slice ay ab.length az)] 25 (0,0)))∧Aside0 (Below w.heap.size w w'))
    case atStart=>exact⟨(0),zt,H',⟨Nat.le_refl _⟩,⟨zR_ ba⟩,⟨zK_ aa⟩,⟨zB_ HB⟩⟩
    case round =>
     clear H';(try clear c3);(try clear c6);(try clear bq);(try clear bl);(try clear bm);(try clear aN);(try clear aQ);(try clear bn);(try clear bo);(try clear aT);(try clear aU);obtain⟨al,rfl,HA,bF,aV,aa,HB⟩:=hrel
     cases gk with
     | zero=>exact absurd HA.out (by simp [sx_.l1])
     | succ k2 =>
      have H:=HA.out;clear HA;simp only [sx_.l1] at H
      by_cases a3:al<(ao.length:Int)
      ·rw [if_pos a3] at H
       have bw:=dT a3;clear a3
       have bG:=zpc H;replace H:=zph H
       have b6:=dT bG;clear bG
       by_cases aZ:(rd ao al)=0
       ·rw [if_pos aZ] at H
        have bx:((rd ao al) == 0)=true:=beq_iff_eq.mpr aZ
        have bz:((rd ao al) != 0)=false:=bne_eq_false_iff_eq.mpr aZ
        clear aZ;have H':=A0_ H;clear H;obtain⟨b9,ca,bJ⟩:=rS aV.out;subst bJ
        have aI:0≤(al:Int):=zd
        have aJ:al<(ao.length:Int):=zd
        obtain⟨bB,bf,bp⟩:=tI (rR aV.out).2.2 al aI aJ
        cases bf
        replace aI:=eq_true aI;replace aJ:=eq_true aJ
        go_wp2
        repeat(go_quiet (fail);try go_wp2)
        go_roundg k2
        case measure=>have:=bk.out;have:=bF.out;omega
        case rel=>exact⟨(wrap64 (al+1)),zt,H',⟨by have:=bk.out;have:=bF.out;omega⟩,⟨zR_ aV⟩,⟨zK_ aa⟩,⟨zB_ HB⟩⟩
       rw [if_neg aZ] at H
       have bx:((rd ao al) == 0)=false:=beq_eq_false_iff_ne.mpr aZ
       have bz:((rd ao al) != 0)=true:=bne_iff_ne.mpr aZ
       obtain rfl:=sI H;obtain⟨cb,cc,bK⟩:=rS aV.out;subst bK
       have aI:0≤(al:Int):=zd
       have aJ:al<(ao.length:Int):=zd
       obtain⟨bB,bf,bp⟩:=tI (rR aV.out).2.2 al aI aJ
       cases bf
       replace aI:=eq_true aI;replace aJ:=eq_true aJ
       go_wp2
       repeat(go_quiet (fail);try go_wp2)
       go_ret
       exact⟨by first|rfl|(simp [*] <;> rfl),zB_ HB⟩
      rw [if_neg a3] at H;have bw:=dF a3;clear a3;obtain rfl:=sI H;obtain⟨cd,ce,bL⟩:=rS aV.out;subst bL
      go_wp2
      repeat(go_quiet (fail);try go_wp2)
      go_ret
      exact⟨by first|rfl|(simp [*] <;> rfl),zB_ HB⟩
 replace c3:=Bool.eq_false_iff.mpr c3;subst c3
 rw [if_neg (show ¬ (false=true) by decide)] at H
 obtain rfl:=sI H
 go_enter Try.func57,Try.ntmps57
 go_wp2_with (first|((with_reducible refine gD (N:=1) rfl ?_);refine zX (N:=1) (cs := #[.slice aw ae.length ax,.slice ay ab.length az]) (t:=25) ?_;intro aA hg w24 hbox hb;have aa:=A0_ (hbox);have aK:=zG hg HB;have aM:=zG hg HB;replace HB:=zB HB hb;clear hb hbox hg;have a4:=zc0 aa;have a5:=zc1 aa;have a6:=kF aa.out 0;have a7:=kF aa.out 1)|(go_at_call 102;(with_reducible refine(s11_.calls k _ _ ae _ _ ab false _ ?af ?ag ?ah ?ai A2.out).mono ?_);(case af=>exact zC ap HB);(case ag=>exact aq.out);(case ah=>exact zC aj HB);(case ai=>exact ar.out);rintro e w' ⟨rfl,⟨nd,rfl⟩⟩;(try first|exact⟨rfl,_,World.drewN_drewN _ _ _⟩|exact⟨rfl,_,Eq.trans (World.drewN_drewN _ _ _) (congrArg (World.drewN _) (Nat.add_assoc _ _ _))⟩)))
 repeat(go_quiet (first|((with_reducible refine gD (N:=1) rfl ?_);refine zX (N:=1) (cs := #[.slice aw ae.length ax,.slice ay ab.length az]) (t:=25) ?_;intro aA hg w24 hbox hb;have aa:=A0_ (hbox);have aK:=zG hg HB;have aM:=zG hg HB;replace HB:=zB HB hb;clear hb hbox hg;have a4:=zc0 aa;have a5:=zc1 aa;have a6:=kF aa.out 0;have a7:=kF aa.out 1)|(go_at_call 102;(with_reducible refine(s11_.calls k _ _ ae _ _ ab false _ ?af ?ag ?ah ?ai A2.out).mono ?_);(case af=>exact zC ap HB);(case ag=>exact aq.out);(case ah=>exact zC aj HB);(case ai=>exact ar.out);rintro e w' ⟨rfl,⟨nd,rfl⟩⟩;(try first|exact⟨rfl,_,World.drewN_drewN _ _ _⟩|exact⟨rfl,_,Eq.trans (World.drewN_drewN _ _ _) (congrArg (World.drewN _) (Nat.add_assoc _ _ _))⟩)));try go_wp2_with (first|((with_reducible refine gD (N:=1) rfl ?_);refine zX (N:=1) (cs := #[.slice aw ae.length ax,.slice ay ab.length az]) (t:=25) ?_;intro aA hg w24 hbox hb;have n0_:=zB HB hb;have n1_:=A0_ (hbox);have n2_:=zG hg HB;have n3_:=zG hg HB;clear HB;have HB:=n0_;have aa:=n1_;have aK:=n2_;have aM:=n3_;clear n0_ n1_ n2_ n3_ hb hbox hg;have a4:=zc0 aa;have a5:=zc1 aa;have a6:=kF aa.out 0;have a7:=kF aa.out 1)|(go_at_call 102;(with_reducible refine(s11_.calls k _ _ ae _ _ ab false _ ?af ?ag ?ah ?ai A2.out).mono ?_);(case af=>exact zC ap HB);(case ag=>exact aq.out);(case ah=>exact zC aj HB);(case ai=>exact ar.out);rintro e w' ⟨rfl,⟨nd,rfl⟩⟩;(try first|exact⟨rfl,_,World.drewN_drewN _ _ _⟩|exact⟨rfl,_,Eq.trans (World.drewN_drewN _ _ _) (congrArg (World.drewN _) (Nat.add_assoc _ _ _))⟩))))
 go_ret
 exact⟨by first|rfl|(simp [*] <;> rfl),zB_ HB⟩
def s1g_.l0:Nat→Int→List Int→Int→List Int→Int→Option (List Int×Int)
  | 0,_,_,_,_,_=>none
  | k+1,x1,x5,x6,ab,ac=>if x6<x1 then ((s1a_.f k ab ac (wrap64 (x6+1))).bind fun aa=>(if aa.1=x6 then (if x5.length<17592186044416 then (s1g_.l0 k x1 (x5 ++ [x6]) (wrap64 (x6+1)) ab aa.2) else (none)) else (if 0≤aa.1 then (if aa.1<(x5.length:Int) then (if x5.length<17592186044416 then ((some (x5 ++ [rd x5 aa.1]:List Int)).bind fun ae=>(if aa.1<(ae.length:Int) then (s1g_.l0 k x1 (ae.set (aa.1:Int).toNat x6) (wrap64 (x6+1)) ab aa.2) else (none))) else (none)) else (none)) else (none)))) else (some (x5,ac))
def s1g_.f (k:Nat) (s0_0:List Int) (s0_1:Int) (a1:Int):Option (List Int×Int):=s1g_.l0 k a1 (([]:List Int)) 0 s0_0 s0_1
theorem s1g_.calls (k:Nat) (g:Nat) (s0_0:List Int) (s0_1:Int) (a1:Int) (r1:List Int) (r2:Int) (w0 w:World) (hI:IsS82 w0 w g s0_0 s0_1) (hB:Below w0.heap.size w0 w) (h:s1g_.f k s0_0 s0_1 a1=some (r1,r2)) :
    Calls Try.prog 87 #[.pointer (some ⟨g,0,none⟩),.int .i64 a1] w fun e w' => ∃ v0_:Value,e = .returned (v0_)∧Kd.R (Kd.int .i64) 3 w' w.heap.size (fun _=>True) v0_ r1∧IsS82 w0 w' g s0_0 r2∧Below w0.heap.size w0 w'∧KeepBut w w' g none:=by
 have HI0:=A0_ hI
 have HK:=A0_ (KeepBut.refl w g none)
 have HL:=A0_ hB.size;clear hI;have HW0:=A0_ hB.size;have HB:=A0_ hB;clear hB
 have H:(s1g_.l0 k a1 (([]:List Int)) 0 s0_0 s0_1)=some (r1,r2):=h
 clear h
 obtain⟨ay,aj⟩ : ∃ y_:List Int,y_=(([]:List Int)):=⟨_,rfl⟩
 replace H:(s1g_.l0 k a1 ay 0 s0_0 s0_1)=some (r1,r2):=zH aj H
 have aw:=A0_ aj;clear aj;have H':=A0_ H;clear H
 go_enter Try.func87,Try.ntmps87
 go_wp2_with (first|((with_reducible refine gD (N:=8) rfl ?_);refine Kd.R_lit (Kd.int .i64) _ 3 ?hg (N:=8) ?hd (xs:=([]:List Int)) (inner := []) (ok:=fun _=>True) (okp:=fun _=>True) ?hr ?hp (fun _ hk=>hk) trivial (Below.refl _ _) (Nat.le_refl _) (by simp) ?_;(case hd=>rfl);(case hg=>rfl);(case hr=>first|(go_simp;done)|(go_simp;rfl));(case hp=>exact(Reps.none _ _));intro bd w3 ap hb hg_ hnew_;clear hg_ hnew_;(first|rw [← aw.out] at ap|(simp only [Int.reduceToNat] at ap;rw [← aw.out] at ap));have aG:=A0_ (rL ap (keep_size (w:=w) (g:=g) (row:=none) (zKp HK)));replace HK:=A0_ (KeepBut.trans (zKp HK) (KeepBut.of_below hb g none) (.inl rfl));replace HB:=A0_ (bT (zBw HB) hb);replace HI0:=A0_ (IsS82.below (zIs HI0) hb);clear hb ap))
 go_loopg [5,6] k (fun kq v5 v6 w' => ∃ (af:List Int) (aa:Int) (ae:Int),v6 = .int .i64 aa∧Aside0 (s1g_.l0 kq a1 af aa s0_0 ae=some (r1,r2))∧Aside0 (kq≤k)∧Aside0 (Kd.R (Kd.int .i64) 3 w' w.heap.size (fun _=>True) v5 af)∧Aside0 (IsS82 w0 w' g s0_0 ae)∧Aside0 (KeepBut w w' g none)∧Aside0 (Below w0.heap.size w0 w'))
 case atStart=>exact⟨(ay),(0),(s0_1),zt,H',⟨Nat.le_refl _⟩,⟨zR_ aG⟩,⟨zIs HI0⟩,⟨zKp HK⟩,⟨zBw HB⟩⟩
 case round =>
  clear H';obtain⟨af,aa,ae,rfl,HA,ax,ac,HI0,HK,HB⟩:=hrel
  cases gk with
  | zero=>exact absurd HA.out (by simp [s1g_.l0])
  | succ k1 =>
   have H:=HA.out;clear HA;simp only [s1g_.l0] at H
   by_cases c5:aa<a1
   ·rw [if_pos c5] at H
    have aW:=dT c5;clear c5;obtain⟨⟨ab,ah⟩,A6,H⟩:=zbind H;dsimp only at H
    by_cases c7:ab=aa
    ·rw [if_pos c7] at H
     have aX:(ab == aa)=true:=beq_iff_eq.mpr c7
     have aY:(ab != aa)=false:=bne_eq_false_iff_eq.mpr c7
     clear c7
     have c8:=zpc H;replace H:=zph H
     have aZ:=A0_ c8;clear c8
     obtain⟨az,ak⟩ : ∃ y_:List Int,y_=(af ++ [aa]):=⟨_,rfl⟩
     replace H:(s1g_.l0 k1 a1 az (wrap64 (aa+1)) s0_0 ah)=some (r1,r2):=zH ak H
     have aH:=A0_ ak;clear ak;have H':=A0_ H;clear H
     go_wp2_with (first|((with_reducible refine gC (f:=74) rfl ?_);refine zJ (some 17) Try.func74 #[.pointer (some ⟨g,0,none⟩),.int .i64 (wrap64 (aa+1))] ?_;(with_reducible refine(s1a_.calls k1 g s0_0 ae (wrap64 (aa+1)) ab ah w0 _ ?al ?am A6.out).mono ?_);(case al=>repeat(first|(with_reducible first|exact HI0.out|apply IsS82.alloc|apply IsS82.drewN|apply IsS82.drew|apply IsS82.set_1)|exact HI0.out));(case am=>repeat(first|(with_reducible first|exact HB.out|apply bA|apply bN|apply bD|refine bS ?_ (IsS82.ge HI0.out))|exact HB.out));rintro e w9 ⟨rfl,hi,hb,hk⟩;refine⟨_,rfl,?_⟩;replace ac:=A0_ (rM (Kd.R_keep (IsS82.apart (show IsS82 w0 _ g s0_0 ae from zIs HI0) (zR_ ac) (by decide)) hk (fun _ h=>h.2)) (fun _ h=>h.1));replace HK:=A0_ (KeepBut.trans (zKp HK) hk (.inl rfl));replace HB:=A0_ (hb);replace HI0:=A0_ (hi);(try clear hb))|((with_reducible refine gB (b := .append) (xs := #[.tmp 21,.tmp 23]) rfl ?_);at_builtin;refine Kd.R_append (Kd.int .i64) w.heap.size rfl (.tmp 21) (.tmp 23) 23 3 (.int .i64 0) 8 rfl Try.underlying23 info3 rfl (by decide) (by omega) u5 af aa [.int .i64 aa] (fun _=>True) (fun _=>False) rfl rfl ?aP (fun _ hk=>hk.elim) ?aF ?aO (Below.refl _ _) ?aS ?aL ?_;(case aP=>exact rfl);(case aF=>exact(fun _ _=>trivial));(case aO=>exact(zR_ ac));(case aS=>exact(keep_size (w:=w) (g:=g) (row:=none) (zKp HK)));(case aL=>have:=aZ.out;omega);intro be w10 ho hb hg hat;rw [← aH.out] at ho;replace HB:=A0_ (below_weaken (zBw HB) HL.out hb);replace HI0:=A0_ (IsS82.grown (zIs HI0) hg (IsS82.own_ne HI0.out ac.out (by decide)));replace HK:=A0_ (KeepBut.trans (zKp HK) (KeepBut.of_grown hg g) (Kd.R_base2 ac.out));have aI:=A0_ (ho);clear ac ho hb hg hat))
     go_roundg k1
     case measure=>have:=ax.out;omega
     case rel=>exact⟨(az),(wrap64 (aa+1)),(ah),zt,H',⟨by have:=ax.out;omega⟩,⟨zR_ aI⟩,⟨zIs HI0⟩,⟨zKp HK⟩,⟨zBw HB⟩⟩
    rw [if_neg c7] at H
    have aX:(ab == aa)=false:=beq_eq_false_iff_ne.mpr c7
    have aY:(ab != aa)=true:=bne_iff_ne.mpr c7
    have aQ:=zpc H;replace H:=zph H
    have ba:=dT aQ;clear aQ
    have aT:=zpc H;replace H:=zph H
    have bb:=dT aT;clear aT
    have aU:=zpc H;replace H:=zph H
    have aJ:=A0_ aU;clear aU
    obtain⟨ai,an⟩ : ∃ y_:List Int,y_=(af ++ [rd af ab]):=⟨_,rfl⟩
    replace H:(if ab<(ai.length:Int) then (s1g_.l0 k1 a1 (ai.set (ab:Int).toNat aa) (wrap64 (aa+1)) s0_0 ah) else (none))=some (r1,r2):=zH an H
    have aK:=A0_ an;clear an
    have aV:=zpc H;replace H:=zph H
    have bc:=dT aV;clear aV
    obtain⟨aq,ao⟩ : ∃ y_:List Int,y_=(ai.set (ab:Int).toNat aa):=⟨_,rfl⟩
    replace H:(s1g_.l0 k1 a1 aq (wrap64 (aa+1)) s0_0 ah)=some (r1,r2):=zH ao H
    have aM:=A0_ ao;clear ao;have H':=A0_ H;clear H
    go_wp2_with (first|((with_reducible refine gC (f:=74) rfl ?_);refine zJ (some 17) Try.func74 #[.pointer (some ⟨g,0,none⟩),.int .i64 (wrap64 (aa+1))] ?_;(with_reducible refine(s1a_.calls k1 g s0_0 ae (wrap64 (aa+1)) ab ah w0 _ ?al ?am A6.out).mono ?_);(case al=>repeat(first|(with_reducible first|exact HI0.out|apply IsS82.alloc|apply IsS82.drewN|apply IsS82.drew|apply IsS82.set_1)|exact HI0.out));(case am=>repeat(first|(with_reducible first|exact HB.out|apply bA|apply bN|apply bD|refine bS ?_ (IsS82.ge HI0.out))|exact HB.out));rintro e w16 ⟨rfl,hi,hb,hk⟩;refine⟨_,rfl,?_⟩;replace ac:=A0_ (rM (Kd.R_keep (IsS82.apart (show IsS82 w0 _ g s0_0 ae from zIs HI0) (zR_ ac) (by decide)) hk (fun _ h=>h.2)) (fun _ h=>h.1));replace HK:=A0_ (KeepBut.trans (zKp HK) hk (.inl rfl));replace HB:=A0_ (hb);replace HI0:=A0_ (hi);(try clear hb);obtain⟨bf,a3,a4⟩:=rS ac.out;subst a4;have ar:0≤(ab:Int):=zd;have au:ab<(af.length:Int):=zd;obtain⟨aN,a5,a7⟩:=tI (rR ac.out).2.2 ab ar au;cases a5;replace ar:=eq_true ar;replace au:=eq_true au)|((with_reducible refine gB (b := .append) (xs := #[.tmp 25,.tmp 30]) rfl ?_);at_builtin;refine Kd.R_append (Kd.int .i64) w.heap.size rfl (.tmp 25) (.tmp 30) 23 3 (.int .i64 0) 8 rfl Try.underlying23 info3 rfl (by decide) (by omega) (.slice (some aN) af.length a3) af (rd af ab) [.int .i64 (rd af ab)] (fun _=>True) (fun _=>False) rfl rfl ?aP (fun _ hk=>hk.elim) ?aF ?aO (Below.refl _ _) ?aS ?aL ?_;(case aP=>exact rfl);(case aF=>exact(fun _ _=>trivial));(case aO=>exact(zR_ ac));(case aS=>exact(keep_size (w:=w) (g:=g) (row:=none) (zKp HK)));(case aL=>have:=aJ.out;omega);intro bg w18 ho hb hg hat;rw [← aK.out] at ho;replace HB:=A0_ (below_weaken (zBw HB) HL.out hb);replace HI0:=A0_ (IsS82.grown (zIs HI0) hg (IsS82.own_ne HI0.out ac.out (by decide)));replace HK:=A0_ (KeepBut.trans (zKp HK) (KeepBut.of_grown hg g) (Kd.R_base2 ac.out));have ag:=A0_ (ho);clear ac ho hb hg hat;have aA:0≤(ab:Int):=zd;have aC:(ab:Int)<((ai.length:Int):Int):=zd;obtain⟨av,a6,aD,aE,gl15,cl15,HG15⟩:=Kd.R_form ag.out (by omega);(first|cases aD|(injection aD with ea_ en_ ec_;(first|subst ea_|(injection ea_ with ea_;subst ea_));subst ec_;clear en_));have GB15:=A0_ aE;have GG15:=A0_ HG15;clear aE gl15 HG15;obtain⟨a8,a9⟩:=Kd.R_celln 0 ag.out (ab:Int) aA aC;replace aA:=eq_true aA;replace aC:=eq_true aC;obtain⟨hy19_,hz19_⟩:=Kd.R_celln 0 ag.out (ab:Int) (zd) (zd);have HP19:=Kd.R_putg ag.out (ab:Int) aa)|((with_reducible refine gS (t:=3) (p:=35) rfl ?_);refine store_event (t:=3) (p:=35) (v := ?vo_w20) (w1:=(w18.setCell ⟨av,(ab:Int).toNat,none⟩ (.int .i64 aa))) ?hg ?ho ?hn ?hr ?_;(case ho=>rfl);(case hg=>rfl);(case hn=>rfl);(case hr=>first|(go_simp;done)|(go_simp;rfl));intro w20 hw;have hg:w18.grownBy w20 (some av):=(by rw [hw];exact HP19.2);have hp_:Kd.R (Kd.int .i64) 3 w20 w.heap.size (fun _=>True) (.slice (some ⟨av,0,none⟩) ai.length a6) aq:=(by rw [hw,aM.out];exact HP19.1);clear HP19;replace HI0:=A0_ (IsS82.grown (zIs HI0) hg (IsS82.own_ne HI0.out ag.out (by decide)));replace HB:=A0_ ((by rw [hw];exact bS (HB.out) (Nat.le_trans HL.out GB15.out):Below w0.heap.size w0 w20));replace HK:=A0_ (KeepBut.trans (zKp HK) (KeepBut.of_grown hg g) (Kd.R_base2 ag.out));replace ag:=A0_ (hp_);clear hg hw hp_))
    go_roundg k1
    case measure=>have:=ax.out;omega
    case rel=>exact⟨(aq),(wrap64 (aa+1)),(ah),zt,H',⟨by have:=ax.out;omega⟩,⟨zR_ ag⟩,⟨zIs HI0⟩,⟨zKp HK⟩,⟨zBw HB⟩⟩
   rw [if_neg c5] at H;have aW:=dF c5;clear c5;simp only [Option.some.injEq,Prod.mk.injEq] at H;obtain⟨rfl,rfl⟩:=H
   go_wp2
   go_ret
   exact⟨_,by first|rfl|(simp [*] <;> rfl),zR_ ac,zIs HI0,zBw HB,zKp HK⟩
end Go.Proofs.Ytmegggomhjgehaa.PFnCoverTree
