import Derived.Test.YtjebcgbmlbemcaaGreatDoorPFnExecuteContractx8
namespace Go.Proofs.YtjebcgbmlbemcaaGreatDoor.PFnExecuteContract
open Go.RowKit Go.Proofs.YtjebcgbmlbemcaaGreatDoorW.PrintWords Go.Proofs.YtjebcgbmlbemcaaGreatDoorW.PrintLast Go.Proofs.YtjebcgbmlbemcaaGreatDoorW.PrintMore
set_option maxHeartbeats 8000000
set_option maxRecDepth 100000
attribute [local go_sem] max2_int min2_int max_two min_two max_three min_three max_four min_four
set_option linter.unusedVariables false
set_option linter.unusedSimpArgs false
mutual
def i6_.j0:Nat→Int→ByteArray→Bool→Option (List Int×Bool)
  | 0,_,_,_=>none
  | k+1,x0,x1,ab=>if ab=true then (some (([]:List Int),false)) else ((if_.f k x0).bind fun aa=>(i6_.l0 k x0 x1 aa x1))
def i6_.l0:Nat→Int→ByteArray→List Int→ByteArray→Option (List Int×Bool)
  | 0,_,_,_,_=>none
  | k+1,x0,x1,x6,x7=>if x7.toList=([]:List UInt8) then (i6_.j2 k x0 x1 x6 x7 false) else (i6_.j2 k x0 x1 x6 x7 (x1.toList != ([40,41]:List UInt8)))
def i6_.j2:Nat→Int→ByteArray→List Int→ByteArray→Bool→Option (List Int×Bool)
  | 0,_,_,_,_,_=>none
  | k+1,x0,x1,x6,x7,af=>if af=true then ((s1j_.f x7 (⟨#[40]⟩:ByteArray)).bind fun ab=>((s1i_.f ab.1 (⟨#[41]⟩:ByteArray)).bind fun aa=>(if ab.2=true then (i6_.j3 k x0 x1 x6 aa.1 aa.2.1 (!aa.2.2)) else (i6_.j3 k x0 x1 x6 aa.1 aa.2.1 true)))) else ((i7_.f k x6).bind fun ac=>(if ac.toList=x1.toList then (some (x6,true)) else (some (([]:List Int),false))))
def i6_.j3:Nat→Int→ByteArray→List Int→ByteArray→ByteArray→Bool→Option (List Int×Bool)
  | 0,_,_,_,_,_,_=>none
  | k+1,x0,x1,x6,ab,ac,af=>if af=true then (some (([]:List Int),false)) else ((s1k_.f ab (⟨#[44]⟩:ByteArray)).bind fun aa=>(i6_.l1 k x0 x1 x6 ac (([]:List Int)) aa (aa.length:Int) 0))
def i6_.l1:Nat→Int→ByteArray→List Int→ByteArray→List Int→List ByteArray→Int→Int→Option (List Int×Bool)
  | 0,_,_,_,_,_,_,_,_=>none
  | k+1,x0,x1,x6,ag,ab,af,ah,ac=>if ac<ah then (if 0≤ac then (if ac<(af.length:Int) then ((s1h_.f (rdOf ByteArray.empty af ac)).bind fun aa=>(if aa.2.isNone=true then (if aa.1<0 then (some (([]:List Int),false)) else (if aa.1≥x0 then (some (([]:List Int),false)) else (if ab.length<17592186044416 then (i6_.l1 k x0 x1 x6 ag (ab ++ [aa.1]) af ah (wrap64 (ac+1))) else (none)))) else (some (([]:List Int),false)))) else (none)) else (none)) else (i6_.l2 k x0 x1 x6 ag ab ab (ab.length:Int) 0)
def i6_.l2:Nat→Int→ByteArray→List Int→ByteArray→List Int→List Int→Int→Int→Option (List Int×Bool)
  | 0,_,_,_,_,_,_,_,_=>none
  | k+1,x0,x1,x6,af,ab,ac,ag,aa=>if aa<ag then (if 0≤aa then (if aa<(ac.length:Int) then (if (ab.length:Int)=0 then (none) else (if 0≤(Int.tmod (wrap64 (aa+1)) (ab.length:Int)) then (if (Int.tmod (wrap64 (aa+1)) (ab.length:Int))<(ab.length:Int) then (if 0≤(rd ac aa) then (if (rd ac aa)<(x6.length:Int) then (i6_.l2 k x0 x1 (x6.set ((rd ac aa):Int).toNat (rd ab (Int.tmod (wrap64 (aa+1)) (ab.length:Int)))) af ab ac ag (wrap64 (aa+1))) else (none)) else (none)) else (none)) else (none))) else (none)) else (none)) else (i6_.l0 k x0 x1 x6 af)
end
def i6_.f (k:Nat) (a0:Int) (a1:ByteArray):Option (List Int×Bool):=if a0<1 then (i6_.j0 k a0 a1 true) else (i6_.j0 k a0 a1 (decide (a0>12)))
theorem i6_.calls (k:Nat) (a0:Int) (a1:ByteArray) (r1:List Int) (r2:Bool) (w:World) (h:i6_.f k a0 a1=some (r1,r2)) :
    Calls Tryz.prog 66 #[.int .i64 a0,.string a1] w fun e w' => ∃ v0_:Value,e = .returned (.tuple #[v0_,.bool r2])∧Kd.R (Kd.int .i64) 3 w' w.heap.size (fun _=>True) v0_ r1∧Below w.heap.size w w':=by
 have da:=Tryz.underlying56
 have HB:=A0_ (Below.refl w.heap.size w)
 have H:(if a0<1 then (i6_.j0 k a0 a1 true) else (i6_.j0 k a0 a1 (decide (a0>12))))=some (r1,r2):=h
 clear h;have bG:=A0_ H;clear H
 go_enter Tryz.func66,Tryz.ntmps66
 go_upto_region 1 with(fail)
 go_cut [25] (fun v25 wc => ∃ (kq:Nat) (aK:Bool),v25 = .bool aK∧Aside0 (i6_.j0 kq a0 a1 aK=some (r1,r2))∧Aside0 (kq≤k)∧Aside0 (Below w.heap.size w wc))
 case first =>
  have H:=bG.out;clear bG
  by_cases c4:a0<1
  ·rw [if_pos c4] at H
   have aQ:=dT c4;clear c4
   (first|rw [aQ]|(simp only [i64_w,i32_w];rw [aQ])|skip)
   have H':=A0_ H;clear H
   go_wp2
   go_meet
   case rel=>exact⟨_,(true),zt,H',zo,⟨zB_ HB⟩⟩
  rw [if_neg c4] at H;have aQ:=dF c4;clear c4
  (first|rw [aQ]|(simp only [i64_w,i32_w];rw [aQ])|skip)
  have H':=A0_ H;clear H
  go_wp2
  go_meet
  case rel=>exact⟨_,(decide (a0>12)),zt,H',zo,⟨zB_ HB⟩⟩
 case rest =>
  clear bG;obtain⟨kq,aK,rfl,HA,aw,HB⟩:=hcut
  cases kq with
  | zero=>exact absurd HA.out (by simp [i6_.j0])
  | succ bi =>
   have H:=HA.out;clear HA;simp only [i6_.j0] at H
   by_cases c5:aK=true
   ·subst c5
    have H1:(some (([]:List Int),false))=some (r1,r2):=by rw [if_pos rfl] at H;exact H
    clear H;have H:=H1;clear H1;simp only [Option.some.injEq,Prod.mk.injEq] at H;obtain⟨rfl,rfl⟩:=H
    go_wp2
    go_ret2
    exact⟨_,by first|rfl|(simp [*] <;> rfl),by first|exact Kd.R_nil _ _ _ _ _|exact Kd.N_nil _ _ _ _ _|exact Kd.V_nil _ _ _ _ _|exact Kd.Q_nil _ _ _ _ _|exact Kd.S_nil _ _ _ _ _,zB_ HB⟩
   replace c5:=Bool.eq_false_iff.mpr c5;subst c5
   have H1:((if_.f bi a0).bind fun a7=>(i6_.l0 bi a0 a1 a7 a1))=some (r1,r2):=by rw [if_neg (show ¬ (false=true) by decide)] at H;exact H
   clear H;have H:=H1;clear H1;obtain⟨a7,A6,H⟩:=zbind H;have H':=A0_ H;clear H
   go_wp2_with (first|((with_reducible refine gC (f:=83) rfl ?_);refine zJ (some 27) Tryz.func83 #[.int .i64 a0] ?_;(with_reducible refine(if_.calls bi a0 a7 _ A6.out).mono ?_);rintro e w7 ⟨aq,rfl,bj,hb⟩;refine⟨_,rfl,?_⟩;have bU:=A0_ (rL bj (bZ (zB_ HB)));replace HB:=zB HB hb;(try clear hb);(try clear bj)))
   go_loopg [7] bi (fun kq v7 w' => ∃ (ah:List Int) (ap:ByteArray),v7 = .string ap∧Aside0 (i6_.l0 kq a0 a1 ah ap=some (r1,r2))∧Aside0 (kq≤bi)∧Aside0 (Kd.R (Kd.int .i64) 3 w' w.heap.size (fun _=>True) aq ah)∧Aside0 (Below w.heap.size w w'))
   case atStart=>exact⟨(a7),(a1),zt,H',⟨Nat.le_refl _⟩,⟨zR_ bU⟩,⟨zB_ HB⟩⟩
   case round =>
    clear H';(try clear c5);obtain⟨ah,ap,rfl,HA,ax,ab,HB⟩:=hrel
    cases gk with
    | zero=>exact absurd HA.out (by simp [i6_.l0])
    | succ k2 =>
     have H:=HA.out;clear HA;simp only [i6_.l0] at H;have bH:=A0_ H;clear H
     go_upto_region 5 with(fail)
     go_cut [34] (fun v34 wc => ∃ (kq:Nat) (aM:Bool),v34 = .bool aM∧Aside0 (i6_.j2 kq a0 a1 ah ap aM=some (r1,r2))∧Aside0 (kq≤k2)∧Aside0 (Kd.R (Kd.int .i64) 3 wc w.heap.size (fun _=>True) aq ah)∧Aside0 (Below w.heap.size w wc))
     case first =>
      have H:=bH.out;clear bH
      by_cases c9:ap.toList=([]:List UInt8)
      ·rw [if_pos c9] at H
       have aT:(ap.toList == ([]:List UInt8))=true:=beq_iff_eq.mpr c9
       have cp:(ap.toList != ([]:List UInt8))=false:=bne_eq_false_iff_eq.mpr c9
       clear c9
       (first|rw [aT]|(simp only [i64_w,i32_w];rw [aT])|skip)
       have H':=A0_ H;clear H
       go_wp2
       go_meet
       case rel=>exact⟨_,(false),zt,H',⟨by have:=aw.out;have:=ax.out;first|omega|exact Nat.le_refl _⟩,⟨zR_ ab⟩,⟨zB_ HB⟩⟩
      rw [if_neg c9] at H
      have aT:(ap.toList == ([]:List UInt8))=false:=beq_eq_false_iff_ne.mpr c9
      have cp:(ap.toList != ([]:List UInt8))=true:=bne_iff_ne.mpr c9
      (first|rw [aT]|(simp only [i64_w,i32_w];rw [aT])|skip)
      have H':=A0_ H;clear H
      go_wp2
      go_meet
      case rel=>exact⟨_,((a1.toList != ([40,41]:List UInt8))),zt,H',⟨by have:=aw.out;have:=ax.out;first|omega|exact Nat.le_refl _⟩,⟨zR_ ab⟩,⟨zB_ HB⟩⟩
     case rest =>
      clear bH;(try clear c5);obtain⟨kq,aM,rfl,HA,aI,ab,HB⟩:=hcut
      cases kq with
      | zero=>exact absurd HA.out (by simp [i6_.j2])
      | succ aJ =>
       have H:=HA.out;clear HA;simp only [i6_.j2] at H
       by_cases aU:aM=true
       ·subst aU
        have H1:((s1j_.f ap (⟨#[40]⟩:ByteArray)).bind fun bu=>((s1i_.f bu.1 (⟨#[41]⟩:ByteArray)).bind fun aA=>(if bu.2=true then (i6_.j3 aJ a0 a1 ah aA.1 aA.2.1 (!aA.2.2)) else (i6_.j3 aJ a0 a1 ah aA.1 aA.2.1 true))))=some (r1,r2):=by rw [if_pos rfl] at H;exact H
        clear H;have H:=H1;clear H1;obtain⟨⟨bk,bI⟩,cJ,H⟩:=zbind H;dsimp only at H;obtain⟨⟨av,an,bl⟩,cK,H⟩:=zbind H;dsimp only at H;have bm:=A0_ H;clear H
        go_upto_region 8 with(first|((with_reducible refine gC (f:=101) rfl ?_);refine zJ (some 37) Tryz.func101 #[.string ap,.string (⟨#[40]⟩:ByteArray)] ?_;(with_reducible refine(s1j_.calls ap (⟨#[40]⟩:ByteArray) bk bI _ cJ.out).mono ?_);rintro e w' ⟨rfl,⟨nd,rfl⟩⟩;refine⟨_,rfl,?_⟩)|((with_reducible refine gC (f:=102) rfl ?_);refine zJ (some 42) Tryz.func102 #[.string bk,.string (⟨#[41]⟩:ByteArray)] ?_;(with_reducible refine(s1i_.calls bk (⟨#[41]⟩:ByteArray) av an bl _ cK.out).mono ?_);rintro e w' ⟨rfl,⟨nd,rfl⟩⟩;refine⟨_,rfl,?_⟩))
        (try simp only [Act.put,List.setIfInBounds_toArray,List.set_cons_zero,List.set_cons_succ])
        go_cut [51] (fun v51 wc => ∃ (kq:Nat) (aC:Bool),v51 = .bool aC∧Aside0 (i6_.j3 kq a0 a1 ah av an aC=some (r1,r2))∧Aside0 (kq≤aJ)∧Aside0 (Kd.R (Kd.int .i64) 3 wc w.heap.size (fun _=>True) aq ah)∧Aside0 (Below w.heap.size w wc))
        case first =>
         have H:=bm.out;clear bm
         by_cases bv:bI=true
         ·subst bv
          have H1:(i6_.j3 aJ a0 a1 ah av an (!bl))=some (r1,r2):=by rw [if_pos rfl] at H;exact H
          clear H;have H:=H1;clear H1;have H':=A0_ H;clear H
          go_wp2
          go_meet
          case rel=>exact⟨_,(!bl),zt,H',⟨by have:=aw.out;have:=ax.out;have:=aI.out;first|omega|exact Nat.le_refl _⟩,⟨zR_ ab⟩,⟨zB_ HB⟩⟩
         replace bv:=Bool.eq_false_iff.mpr bv;subst bv
         have H1:(i6_.j3 aJ a0 a1 ah av an true)=some (r1,r2):=by rw [if_neg (show ¬ (false=true) by decide)] at H;exact H
         clear H;have H:=H1;clear H1;have H':=A0_ H;clear H
         go_wp2
         go_meet
         case rel=>exact⟨_,(true),zt,H',⟨by have:=aw.out;have:=ax.out;have:=aI.out;first|omega|exact Nat.le_refl _⟩,⟨zR_ ab⟩,⟨zB_ HB⟩⟩
        case rest =>
         clear bm;(try clear c5);(try clear aU);obtain⟨kq,aC,rfl,HA,aD,ab,HB⟩:=hcut
         cases kq with
         | zero=>exact absurd HA.out (by simp [i6_.j3])
         | succ a8 =>
          have H:=HA.out;clear HA;simp only [i6_.j3] at H
          by_cases aY:aC=true
          ·subst aY
           have H1:(some (([]:List Int),false))=some (r1,r2):=by rw [if_pos rfl] at H;exact H
           clear H;have H:=H1;clear H1;simp only [Option.some.injEq,Prod.mk.injEq] at H;obtain⟨rfl,rfl⟩:=H
           go_wp2
           go_ret2
           exact⟨_,by first|rfl|(simp [*] <;> rfl),by first|exact Kd.R_nil _ _ _ _ _|exact Kd.N_nil _ _ _ _ _|exact Kd.V_nil _ _ _ _ _|exact Kd.Q_nil _ _ _ _ _|exact Kd.S_nil _ _ _ _ _,zB_ HB⟩
          replace aY:=Bool.eq_false_iff.mpr aY;subst aY
          have H1:((s1k_.f av (⟨#[44]⟩:ByteArray)).bind fun af=>(i6_.l1 a8 a0 a1 ah an (([]:List Int)) af (af.length:Int) 0))=some (r1,r2):=by rw [if_neg (show ¬ (false=true) by decide)] at H;exact H
          clear H;have H:=H1;clear H1
          obtain⟨bJ,a9⟩ : ∃ y_:List Int,y_=(([]:List Int)):=⟨_,rfl⟩
          replace H:((s1k_.f av (⟨#[44]⟩:ByteArray)).bind fun af=>(i6_.l1 a8 a0 a1 ah an bJ af (af.length:Int) 0))=some (r1,r2):=zH a9 H
          have bx:=A0_ a9;clear a9;obtain⟨af,cL,H⟩:=zbind H;have H':=A0_ H;clear H
          go_wp2_with (first|((with_reducible refine gD (N:=52) rfl ?_);refine Kd.R_lit (Kd.int .i64) _ 3 ?hg (N:=52) ?hd (xs:=([]:List Int)) (inner := []) (ok:=fun _=>True) (okp:=fun _=>True) ?hr ?hp (fun _ hk=>hk) trivial (Below.refl _ _) (Nat.le_refl _) (by simp) ?_;(case hd=>rfl);(case hg=>rfl);(case hr=>first|(go_simp;done)|(go_simp;rfl));(case hp=>exact(Reps.none _ _));intro db w17 aE hb hg_ hnew_;clear hg_ hnew_;(first|rw [← bx.out] at aE|(simp only [Int.reduceToNat] at aE;rw [← bx.out] at aE));have ba:=A0_ (rL (Kd.R_new' aE (rX (zR_ ab))) (bZ (zB_ HB)));replace ab:=A0_ (Kd.R_elder' (zR_ ab) (Kd.R_base aE) hb);replace HB:=zB HB hb;clear hb aE)|((with_reducible refine gC (f:=32) rfl ?_);refine zJ (some 54) Tryz.func32 #[.string av,.string (⟨#[44]⟩:ByteArray)] ?_;(with_reducible refine(s1k_.calls av (⟨#[44]⟩:ByteArray) af _ cL.out).mono ?_);rintro e w19 ⟨dc,rfl,bj,hb⟩;refine⟨_,rfl,?_⟩;replace ab:=zR ab hb;replace ba:=zR ba hb;have bz:=A0_ (rL bj (bZ (zB_ HB)));replace HB:=zB HB hb;(try clear hb);(try clear bj);obtain⟨cq,cr,ct⟩:=rS bz.out;subst ct))
          go_loopg [13,56] a8 (fun kq v13 v56 w' => ∃ (aa:List Int) (ac:Int),v56 = .int .i64 ac∧Aside0 (i6_.l1 kq a0 a1 ah an aa af (af.length:Int) ac=some (r1,r2))∧Aside0 (kq≤a8)∧Aside0 (Kd.R (Kd.int .i64) 3 w' w.heap.size (fun k_=>nO k_ v13) aq ah)∧Aside0 (Kd.R (Kd.int .i64) 3 w' w.heap.size (fun k_=>nO k_ aq) v13 aa)∧Aside0 (Kd.R Kd.string 9 w' w.heap.size (fun _=>True) (.slice cq af.length cr) af)∧Aside0 (Below w.heap.size w w'))
          case atStart=>exact⟨(bJ),(0),zt,H',⟨Nat.le_refl _⟩,⟨zmR ab (fun _ hk=>hk.2)⟩,⟨zmR ba (fun _ hk=>hk.2)⟩,⟨zR_ bz⟩,⟨zB_ HB⟩⟩
          case round =>
           clear H';(try clear c5);(try clear aU);(try clear aY);obtain⟨aa,ac,rfl,HA,aZ,ab,ai,aj,HB⟩:=hrel
           cases gk with
           | zero=>exact absurd HA.out (by simp [i6_.l1])
           | succ k5 =>
            have H:=HA.out;clear HA;simp only [i6_.l1] at H
            by_cases aV:ac<(af.length:Int)
            ·rw [if_pos aV] at H
             have bB:=dT aV;clear aV
             have ce:=zpc H;replace H:=zph H
             have cP:=dT ce;clear ce
             have cf:=zpc H;replace H:=zph H
             have cQ:=dT cf;clear cf;obtain⟨⟨am,cu⟩,bC,H⟩:=zbind H;dsimp only at H
             rcases cu with _|bK
             ·have H1:(if am<0 then (some (([]:List Int),false)) else (if am≥a0 then (some (([]:List Int),false)) else (if aa.length<17592186044416 then (i6_.l1 k5 a0 a1 ah an (aa ++ [am]) af (af.length:Int) (wrap64 (ac+1))) else (none))))=some (r1,r2):=by rw [if_pos (show(none:Option Int).isNone=true by rfl)] at H;exact H
              clear H;have H:=H1;clear H1
              try simp only [errW_none,errW_some]
              by_cases a4:am<0
              ·rw [if_pos a4] at H
               have bV:=dT a4;clear a4;simp only [Option.some.injEq,Prod.mk.injEq] at H;obtain⟨rfl,rfl⟩:=H
               have ak:0≤(ac:Int):=zd
               have al:ac<(af.length:Int):=zd
               obtain⟨bb,ay,aG⟩:=Kd.at_string (rR aj.out).2.2 ac ak al
               cases ay
               replace ak:=eq_true ak;replace al:=eq_true al
               go_wp2_with (first|((with_reducible refine gC (f:=103) rfl ?_);refine zJ (some 62) Tryz.func103 #[.string (rdOf ByteArray.empty af ac)] ?_;(with_reducible refine(s1h_.calls (rdOf ByteArray.empty af ac) am none _ bC.out).mono ?_);rintro e w26 ⟨rfl,hb⟩;refine⟨_,rfl,?_⟩;replace ab:=zR ab hb;replace ai:=zR ai hb;replace aj:=zR aj hb;replace HB:=zB HB hb;(try clear hb);(try simp only [errW_none,errW_some])))
               go_ret2
               exact⟨_,by first|rfl|(simp [*] <;> rfl),by first|exact Kd.R_nil _ _ _ _ _|exact Kd.N_nil _ _ _ _ _|exact Kd.V_nil _ _ _ _ _|exact Kd.Q_nil _ _ _ _ _|exact Kd.S_nil _ _ _ _ _,zB_ HB⟩
              rw [if_neg a4] at H;have bV:=dF a4;clear a4
              by_cases a5:am≥a0
              ·rw [if_pos a5] at H
               have bW:decide (a0≤am)=true:=dT a5
               clear a5;simp only [Option.some.injEq,Prod.mk.injEq] at H;obtain⟨rfl,rfl⟩:=H
               have ak:0≤(ac:Int):=zd
               have al:ac<(af.length:Int):=zd
               obtain⟨bb,ay,aG⟩:=Kd.at_string (rR aj.out).2.2 ac ak al
               cases ay
               replace ak:=eq_true ak;replace al:=eq_true al
               go_wp2_with (first|((with_reducible refine gC (f:=103) rfl ?_);refine zJ (some 62) Tryz.func103 #[.string (rdOf ByteArray.empty af ac)] ?_;(with_reducible refine(s1h_.calls (rdOf ByteArray.empty af ac) am none _ bC.out).mono ?_);rintro e w28 ⟨rfl,hb⟩;refine⟨_,rfl,?_⟩;replace ab:=zR ab hb;replace ai:=zR ai hb;replace aj:=zR aj hb;replace HB:=zB HB hb;(try clear hb);(try simp only [errW_none,errW_some])))
               go_ret2
               exact⟨_,by first|rfl|(simp [*] <;> rfl),by first|exact Kd.R_nil _ _ _ _ _|exact Kd.N_nil _ _ _ _ _|exact Kd.V_nil _ _ _ _ _|exact Kd.Q_nil _ _ _ _ _|exact Kd.S_nil _ _ _ _ _,zB_ HB⟩
              rw [if_neg a5] at H
              have bW:decide (a0≤am)=false:=dF a5
              clear a5
              have cg:=zpc H;replace H:=zph H
              have bX:=A0_ cg;clear cg
              obtain⟨bL,bc⟩ : ∃ y_:List Int,y_=(aa ++ [am]):=⟨_,rfl⟩
              replace H:(i6_.l1 k5 a0 a1 ah an bL af (af.length:Int) (wrap64 (ac+1)))=some (r1,r2):=zH bc H
              have bY:=A0_ bc;clear bc;have H':=A0_ H;clear H
              have ak:0≤(ac:Int):=zd
              have al:ac<(af.length:Int):=zd
              obtain⟨bb,ay,aG⟩:=Kd.at_string (rR aj.out).2.2 ac ak al
              cases ay
              replace ak:=eq_true ak;replace al:=eq_true al
              go_wp2_with (first|((with_reducible refine gC (f:=103) rfl ?_);refine zJ (some 62) Tryz.func103 #[.string (rdOf ByteArray.empty af ac)] ?_;(with_reducible refine(s1h_.calls (rdOf ByteArray.empty af ac) am none _ bC.out).mono ?_);rintro e w30 ⟨rfl,hb⟩;refine⟨_,rfl,?_⟩;replace ab:=zR ab hb;replace ai:=zR ai hb;replace aj:=zR aj hb;replace HB:=zB HB hb;(try clear hb);(try simp only [errW_none,errW_some]))|((with_reducible refine gB (b := .append) (xs := #[.tmp 76,.tmp 78]) rfl ?_);at_builtin;refine Kd.R_append (Kd.int .i64) (w0:=w) w.heap.size rfl (.tmp 76) (.tmp 78) 23 3 (.int .i64 0) 8 rfl Tryz.underlying23 info3 rfl (by decide) (by omega) u13 aa am [.int .i64 am] (fun k_=>nO k_ aq) (fun _=>False) rfl rfl ?aP (fun _ hk=>hk.elim) ?aF ?aO ?aB ?aS ?aL ?_;(case aP=>exact rfl);(case aB=>exact(zB_ HB));(case aF=>exact(fun k_ hk=>Kd.fresh' (rX (zR_ ab)) k_ hk));(case aO=>exact(zR_ ai));(case aS=>exact(bZ (zB_ HB)));(case aL=>have:=bX.out;omega);intro dd w31 ho hb hg hat;rw [← bY.out] at ho;replace ab:=A0_ (Kd.R_after (ok:=(fun _=>True)) (zmR ab (fun _ hk=>⟨trivial,hk⟩)) hg hat);replace aj:=A0_ (Kd.R_over' (zR_ aj) (Kd.R_typed (zR_ ai)) (by decide) hg);replace HB:=A0_ (hb);have b5:=A0_ (ho);clear ai ho hb hg hat))
              go_roundg k5
              case measure=>have:=aw.out;have:=ax.out;have:=aI.out;have:=aD.out;have:=aZ.out;omega
              case rel=>exact⟨(bL),(wrap64 (ac+1)),zt,H',⟨by have:=aw.out;have:=ax.out;have:=aI.out;have:=aD.out;have:=aZ.out;omega⟩,⟨zmR ab (fun _ hk=>hk.2)⟩,⟨zR_ b5⟩,⟨zR_ aj⟩,⟨zB_ HB⟩⟩
             have H1:(some (([]:List Int),false))=some (r1,r2):=by rw [if_neg (show ¬ (some bK).isNone=true by simp)] at H;exact H
             clear H;have H:=H1;clear H1
             try simp only [errW_none,errW_some]
             simp only [Option.some.injEq,Prod.mk.injEq] at H;obtain⟨rfl,rfl⟩:=H
             have ak:0≤(ac:Int):=zd
             have al:ac<(af.length:Int):=zd
             obtain⟨bb,ay,aG⟩:=Kd.at_string (rR aj.out).2.2 ac ak al
             cases ay
             replace ak:=eq_true ak;replace al:=eq_true al
             go_wp2_with (first|((with_reducible refine gC (f:=103) rfl ?_);refine zJ (some 62) Tryz.func103 #[.string (rdOf ByteArray.empty af ac)] ?_;(with_reducible refine(s1h_.calls (rdOf ByteArray.empty af ac) am (some bK) _ bC.out).mono ?_);rintro e w32 ⟨rfl,hb⟩;refine⟨_,rfl,?_⟩;replace ab:=zR ab hb;replace ai:=zR ai hb;replace aj:=zR aj hb;replace HB:=zB HB hb;(try clear hb);(try simp only [errW_none,errW_some])))
             go_ret2
             exact⟨_,by first|rfl|(simp [*] <;> rfl),by first|exact Kd.R_nil _ _ _ _ _|exact Kd.N_nil _ _ _ _ _|exact Kd.V_nil _ _ _ _ _|exact Kd.Q_nil _ _ _ _ _|exact Kd.S_nil _ _ _ _ _,zB_ HB⟩
            rw [if_neg aV] at H;have bB:=dF aV;clear aV;have H':=A0_ H;clear H;obtain⟨bd,aH,cv⟩:=rS ai.out;subst cv
            go_wp2
            go_loopg [83] k5 (fun kq v83 w' => ∃ (ao:List Int) (ag:Int),v83 = .int .i64 ag∧Aside0 (i6_.l2 kq a0 a1 ao an aa aa (aa.length:Int) ag=some (r1,r2))∧Aside0 (kq≤k5)∧Aside0 (Kd.R (Kd.int .i64) 3 w' w.heap.size (fun k_=>some k_≠((.slice bd aa.length aH):Value).ownBlock∧some k_≠((.slice bd aa.length aH):Value).ownBlock) aq ao)∧Aside0 (Kd.R (Kd.int .i64) 3 w' w.heap.size (fun k_=>nO k_ aq) (.slice bd aa.length aH) aa)∧Aside0 (Kd.R (Kd.int .i64) 3 w' w.heap.size (fun k_=>nO k_ aq) (.slice bd aa.length aH) aa)∧Aside0 (Below w.heap.size w w'))
            case atStart=>exact⟨(ah),(0),zt,H',⟨Nat.le_refl _⟩,⟨zmR ab (fun _ hk=>⟨hk,hk⟩)⟩,⟨zR_ ai⟩,⟨zR_ ai⟩,⟨zB_ HB⟩⟩
            case round =>
             clear H';(try clear c5);(try clear aU);(try clear aY);(try clear aV);(try clear bB);obtain⟨ao,ag,rfl,HA,bE,ab,ai,aN,HB⟩:=hrel
             cases gk with
             | zero=>exact absurd HA.out (by simp [i6_.l2])
             | succ k6 =>
              have H:=HA.out;clear HA;simp only [i6_.l2] at H
              by_cases a6:ag<(aa.length:Int)
              ·rw [if_pos a6] at H
               have b6:=dT a6;clear a6
               have ch:=zpc H;replace H:=zph H
               have cR:=dT ch;clear ch
               have ci:=zpc H;replace H:=zph H
               have cS:=dT ci;clear ci
               have bM:=zqc H;replace H:=zqh H
               have cT:((aa.length:Int) == 0)=false:=beq_eq_false_iff_ne.mpr bM
               have cU:((aa.length:Int) != 0)=true:=bne_iff_ne.mpr bM
               have cV : ¬ (aa = []):=fun h_=>bM (by rw [h_];rfl)
               obtain⟨ar,bF⟩ : ∃ j_:Int,(Int.tmod (wrap64 (ag+1)) (aa.length:Int))=j_:=⟨_,rfl⟩
               replace H:(if 0≤(ar) then (if (ar)<(aa.length:Int) then (if 0≤(rd aa ag) then (if (rd aa ag)<(ao.length:Int) then (i6_.l2 k6 a0 a1 (ao.set ((rd aa ag):Int).toNat (rd aa (ar))) an aa aa (aa.length:Int) (wrap64 (ag+1))) else (none)) else (none)) else (none)) else (none))=some (r1,r2):=by first|(rw [bF] at H;exact H)|(simp only [bF] at H ⊢;exact H)
               have cj:=zpc H;replace H:=zph H
               have cW:=dT cj;clear cj
               have ck:=zpc H;replace H:=zph H
               have cX:=dT ck;clear ck
               have cl:=zpc H;replace H:=zph H
               have cY:=dT cl;clear cl
               have cm:=zpc H;replace H:=zph H
               have cZ:=dT cm;clear cm
               obtain⟨bn,be⟩ : ∃ y_:List Int,y_=(ao.set ((rd aa ag):Int).toNat (rd aa (ar))):=⟨_,rfl⟩
               replace H:(i6_.l2 k6 a0 a1 bn an aa aa (aa.length:Int) (wrap64 (ag+1)))=some (r1,r2):=zH be H
               have b7:=A0_ be;clear be;have H':=A0_ H;clear H
               have bo:0≤(ag:Int):=zd
               have bp:ag<(aa.length:Int):=zd
               obtain⟨bf,cw,cH⟩:=tI (rR aN.out).2.2 ag bo bp
               cases cw
               replace bo:=eq_true bo;replace bp:=eq_true bp
               have bq:0≤((ar):Int):=zd
               have br:(ar)<(aa.length:Int):=zd
               obtain⟨b8,cx,cI⟩:=tI (rR ai.out).2.2 (ar) bq br
               obtain rfl:bf=b8:=(by injection cx)
               replace bq:=eq_true bq;replace br:=eq_true br
               have bO:0≤((rd aa ag):Int):=zd
               have bP:((rd aa ag):Int)<((ao.length:Int):Int):=zd
               obtain⟨az,aW,bQ,bR,gl43,cl43,HG43⟩:=Kd.R_form ab.out (by omega)
               (first|cases bQ|(injection bQ with ea_ en_ ec_;(first|subst ea_|(injection ea_ with ea_;subst ea_));subst ec_;clear en_))
               have GB43:=A0_ bR;have GG43:=A0_ HG43;clear bR gl43 HG43
               obtain⟨cM,cO⟩:=Kd.R_celln 0 ab.out ((rd aa ag):Int) bO bP
               replace bO:=eq_true bO;replace bP:=eq_true bP
               have HP44:=Kd.R_putg ab.out ((rd aa ag):Int) (rd aa (ar))
               go_wp2_with (first|((with_reducible refine gS (t:=3) (p:=98) rfl ?_);refine store_event (t:=3) (p:=98) (v := ?vo_w45) (w1:=(wr.setCell ⟨az,((rd aa ag):Int).toNat,none⟩ (.int .i64 (rd aa (ar))))) ?hg ?ho ?hn ?hr ?_;(case ho=>rfl);(case hg=>rfl);(case hn=>rfl);(case hr=>first|(go_simp;done)|(go_simp;rfl));intro w45 hw;have hg:wr.grownBy w45 (some az):=(by rw [hw];exact HP44.2);have hp_:Kd.R (Kd.int .i64) 3 w45 w.heap.size (fun k_=>nL k_ (some bf) aa aH∧nL k_ (some bf) aa aH) (.slice (some ⟨az,0,none⟩) ao.length aW) bn:=(by rw [hw,b7.out];exact HP44.1);clear HP44;replace ab:=A0_ (hp_);replace ai:=A0_ (Kd.R_after (v:=(.slice (some ⟨az,0,none⟩) ao.length aW)) (v1:=(.slice (some ⟨az,0,none⟩) ao.length aW)) (ok:=(fun _=>True)) (zmR ai (fun _ hk=>⟨trivial,hk⟩)) hg (.inl rfl));replace aN:=A0_ (Kd.R_after (v:=(.slice (some ⟨az,0,none⟩) ao.length aW)) (v1:=(.slice (some ⟨az,0,none⟩) ao.length aW)) (ok:=(fun _=>True)) (zmR aN (fun _ hk=>⟨trivial,hk⟩)) hg (.inl rfl));replace HB:=A0_ ((by rw [hw];exact bS (HB.out) GB43.out:Below w.heap.size w w45));clear hg hw hp_))
               go_roundg k6
               case measure=>have:=aw.out;have:=ax.out;have:=aI.out;have:=aD.out;have:=aZ.out;have:=bE.out;omega
               case rel=>exact⟨(bn),(wrap64 (ag+1)),zt,H',⟨by have:=aw.out;have:=ax.out;have:=aI.out;have:=aD.out;have:=aZ.out;have:=bE.out;omega⟩,⟨zR_ ab⟩,⟨zmR ai (fun _ hk=>hk.2)⟩,⟨zmR aN (fun _ hk=>hk.2)⟩,⟨zB_ HB⟩⟩
              rw [if_neg a6] at H;have b6:=dF a6;clear a6;have H':=A0_ H;clear H
              go_wp2
              go_roundg k6
              case measure=>have:=aw.out;have:=ax.out;have:=aI.out;have:=aD.out;have:=aZ.out;have:=bE.out;omega
              case rel=>exact⟨(ao),(an),zt,H',⟨by have:=aw.out;have:=ax.out;have:=aI.out;have:=aD.out;have:=aZ.out;have:=bE.out;omega⟩,⟨zmR ab (fun _ hk=>trivial)⟩,⟨zB_ HB⟩⟩
       replace aU:=Bool.eq_false_iff.mpr aU;subst aU
       have H1:((i7_.f aJ ah).bind fun au=>(if au.toList=a1.toList then (some (ah,true)) else (some (([]:List Int),false))))=some (r1,r2):=by rw [if_neg (show ¬ (false=true) by decide)] at H;exact H
       clear H;have H:=H1;clear H1;obtain⟨au,cn,H⟩:=zbind H
       by_cases aX:au.toList=a1.toList
       ·rw [if_pos aX] at H
        have b9:(au.toList == a1.toList)=true:=beq_iff_eq.mpr aX
        have cd:(au.toList != a1.toList)=false:=bne_eq_false_iff_eq.mpr aX
        clear aX;simp only [Option.some.injEq,Prod.mk.injEq] at H;obtain⟨rfl,rfl⟩:=H;obtain⟨cy,cz,cC⟩:=rS ab.out;subst cC
        go_wp2_with (first|((with_reducible refine gC (f:=37) rfl ?_);refine zJ (some 102) Tryz.func37 #[.slice cy ah.length cz] ?_;(with_reducible refine(i7_.calls aJ _ _ ah au _ ?bg ?bh cn.out).mono ?_);(case bg=>exact zD ab);(case bh=>exact(rR ab.out).2.1);rintro e w49 ⟨rfl,hb⟩;refine⟨_,rfl,?_⟩;replace ab:=zR ab hb;replace HB:=zB HB hb;(try clear hb)))
        go_ret2
        exact⟨_,by first|rfl|(simp [*] <;> rfl),zR_ ab,zB_ HB⟩
       rw [if_neg aX] at H
       have b9:(au.toList == a1.toList)=false:=beq_eq_false_iff_ne.mpr aX
       have cd:(au.toList != a1.toList)=true:=bne_iff_ne.mpr aX
       simp only [Option.some.injEq,Prod.mk.injEq] at H;obtain⟨rfl,rfl⟩:=H;obtain⟨cE,cF,cG⟩:=rS ab.out;subst cG
       go_wp2_with (first|((with_reducible refine gC (f:=37) rfl ?_);refine zJ (some 102) Tryz.func37 #[.slice cE ah.length cF] ?_;(with_reducible refine(i7_.calls aJ _ _ ah au _ ?bg ?bh cn.out).mono ?_);(case bg=>exact zD ab);(case bh=>exact(rR ab.out).2.1);rintro e w51 ⟨rfl,hb⟩;refine⟨_,rfl,?_⟩;replace ab:=zR ab hb;replace HB:=zB HB hb;(try clear hb)))
       go_ret2
       exact⟨_,by first|rfl|(simp [*] <;> rfl),by first|exact Kd.R_nil _ _ _ _ _|exact Kd.N_nil _ _ _ _ _|exact Kd.V_nil _ _ _ _ _|exact Kd.Q_nil _ _ _ _ _|exact Kd.S_nil _ _ _ _ _,zB_ HB⟩
end Go.Proofs.YtjebcgbmlbemcaaGreatDoor.PFnExecuteContract
