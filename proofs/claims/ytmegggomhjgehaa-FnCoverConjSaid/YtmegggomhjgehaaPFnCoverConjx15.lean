import Derived.Test.YtmegggomhjgehaaPFnCoverConjx14
namespace Go.Proofs.Ytmegggomhjgehaa.PFnCoverConj
open Go.RowKit Go.Proofs.YtmegggomhjgehaaW.PrintWords Go.Proofs.YtmegggomhjgehaaW.PrintLast Go.Proofs.YtmegggomhjgehaaW.PrintMore
set_option maxHeartbeats 8000000
set_option maxRecDepth 100000
attribute [local go_sem] max2_int min2_int max_two min_two max_three min_three max_four min_four
def lr_.l0:Nat→List (List Int)→List (List Int)→Int→Option (Bool)
  | 0,_,_,_=>none
  | k+1,x0,x1,x5=>if x5<(x0.length:Int) then (if 0≤x5 then (if x5<(x1.length:Int) then ((lq_.f k (rd_L1 x0 x5) (rd_L1 x1 x5)).bind fun aa=>(if aa=true then (lr_.l0 k x0 x1 (wrap64 (x5+1))) else (some false))) else (none)) else (none)) else (some true)
def lr_.f (k:Nat) (l0:List (List Int)) (l1:List (List Int)):Option (Bool):=if (l0.length:Int)=(l1.length:Int) then (lr_.l0 k l0 l1 0) else (some false)
theorem lr_.calls (k:Nat) (A0:Option Addr) (c0:Nat) (l0:List (List Int)) (A1:Option Addr) (c1:Nat) (l1:List (List Int)) (r:Bool) (w:World) (aJ:Kd.C (Kd.slice 3 (Kd.int .i64)) w A0 l0.length l0) (aK:l0.length≤c0) (aM:Kd.C (Kd.slice 3 (Kd.int .i64)) w A1 l1.length l1) (aN:l1.length≤c1) (h:lr_.f k l0 l1=some r) :
    Calls Try.prog 33 #[.slice A0 l0.length c0,.slice A1 l1.length c1] w fun e w'=>e = .returned (.bool r)∧Drawn0 w w':=by
 have aQ:=A0_ aJ;have aZ:=A0_ aK;clear aJ aK;have aT:=A0_ aM;have a4:=A0_ aN;clear aM aN
 have H:(if (l0.length:Int)=(l1.length:Int) then (lr_.l0 k l0 l1 0) else (some false))=some r:=h
 clear h
 by_cases c3:(l0.length:Int)=(l1.length:Int)
 ·rw [if_pos c3] at H
  have ay:((l0.length:Int) == (l1.length:Int))=true:=beq_iff_eq.mpr c3
  have az:((l0.length:Int) != (l1.length:Int))=false:=bne_eq_false_iff_eq.mpr c3
  have aA:(l0.length == l1.length)=true:=by first|simpa using c3|(simp at c3 ⊢;omega)
  clear c3;have H':=A0_ H;clear H
  go_enter Try.func33,Try.ntmps33
  go_wp2
  repeat(go_quiet (fail);try go_wp2)
  go_loopg [5] k (fun kq v5 w' => ∃ (aa:Int),v5 = .int .i64 aa∧Aside0 (lr_.l0 kq l0 l1 aa=some r)∧Aside0 (kq≤k)∧Drawn0 w w')
  case atStart=>exact⟨(0),zt,H',⟨Nat.le_refl _⟩,by repeat(first|exact Drawn0.refl _|apply Drawn0.step)⟩
  case round =>
   clear H';(try clear c1);(try clear c3);(try clear ay);(try clear az);(try clear aA);obtain⟨aa,rfl,HA,aU,⟨m1,rfl⟩⟩:=hrel
   cases gk with
   | zero=>exact absurd HA.out (by simp [lr_.l0])
   | succ k1 =>
    have H:=HA.out;clear HA;simp only [lr_.l0] at H
    by_cases c4:aa<(l0.length:Int)
    ·rw [if_pos c4] at H
     have aV:=dT c4;clear c4
     have c5:=zpc H;replace H:=zph H
     have aX:=dT c5;clear c5
     have c6:=zpc H;replace H:=zph H
     have aY:=dT c6;clear c6;obtain⟨aW,A7,H⟩:=zbind H
     by_cases c8:aW=true
     ·subst c8
      rw [if_pos rfl] at H;have H':=A0_ H;clear H
      have ao:0≤(aa:Int):=zd
      have ap:aa<(l0.length:Int):=zd
      obtain⟨aH,aC,aD,au,aw,ak,al⟩:=at_L1 aQ.out aa ao ap
      cases au
      have ag:=A0_ al;have ah:=A0_ ak;clear al ak;replace ao:=eq_true ao;replace ap:=eq_true ap
      have aq:0≤(aa:Int):=zd
      have ar:aa<(l1.length:Int):=zd
      obtain⟨aI,aE,aG,av,ax,am,an⟩:=at_L1 aT.out aa aq ar
      cases av
      have ai:=A0_ an;have aj:=A0_ am;clear an am;replace aq:=eq_true aq;replace ar:=eq_true ar
      go_wp2_with (first|(go_at_call 38;(with_reducible refine(lq_.calls k1 _ _ (rd_L1 l0 aa) _ _ (rd_L1 l1 aa) true _ ?ab ?ac ?ae ?af A7.out).mono ?_);(case ab=>repeat(first|exact ag.out|(with_reducible refine cA ?_ _)|(with_reducible refine cN ?_ _)|(with_reducible refine cD ?_)));(case ac=>exact ah.out);(case ae=>repeat(first|exact ai.out|(with_reducible refine cA ?_ _)|(with_reducible refine cN ?_ _)|(with_reducible refine cD ?_)));(case af=>exact aj.out);rintro e w' ⟨rfl,⟨nd,rfl⟩⟩;(try first|exact⟨rfl,_,World.drewN_drewN _ _ _⟩|exact⟨rfl,_,Eq.trans (World.drewN_drewN _ _ _) (congrArg (World.drewN _) (Nat.add_assoc _ _ _))⟩)))
      repeat(go_quiet (first|(go_at_call 38;(with_reducible refine(lq_.calls k1 _ _ (rd_L1 l0 aa) _ _ (rd_L1 l1 aa) true _ ?ab ?ac ?ae ?af A7.out).mono ?_);(case ab=>repeat(first|exact ag.out|(with_reducible refine cA ?_ _)|(with_reducible refine cN ?_ _)|(with_reducible refine cD ?_)));(case ac=>exact ah.out);(case ae=>repeat(first|exact ai.out|(with_reducible refine cA ?_ _)|(with_reducible refine cN ?_ _)|(with_reducible refine cD ?_)));(case af=>exact aj.out);rintro e w' ⟨rfl,⟨nd,rfl⟩⟩;(try first|exact⟨rfl,_,World.drewN_drewN _ _ _⟩|exact⟨rfl,_,Eq.trans (World.drewN_drewN _ _ _) (congrArg (World.drewN _) (Nat.add_assoc _ _ _))⟩)));try go_wp2_with (first|(go_at_call 38;(with_reducible refine(lq_.calls k1 _ _ (rd_L1 l0 aa) _ _ (rd_L1 l1 aa) true _ ?ab ?ac ?ae ?af A7.out).mono ?_);(case ab=>repeat(first|exact ag.out|(with_reducible refine cA ?_ _)|(with_reducible refine cN ?_ _)|(with_reducible refine cD ?_)));(case ac=>exact ah.out);(case ae=>repeat(first|exact ai.out|(with_reducible refine cA ?_ _)|(with_reducible refine cN ?_ _)|(with_reducible refine cD ?_)));(case af=>exact aj.out);rintro e w' ⟨rfl,⟨nd,rfl⟩⟩;(try first|exact⟨rfl,_,World.drewN_drewN _ _ _⟩|exact⟨rfl,_,Eq.trans (World.drewN_drewN _ _ _) (congrArg (World.drewN _) (Nat.add_assoc _ _ _))⟩))))
      go_roundg k1
      case measure=>have:=aU.out;omega
      case rel=>exact⟨(wrap64 (aa+1)),zt,H',⟨by have:=aU.out;omega⟩,by repeat(first|exact Drawn0.refl _|apply Drawn0.step)⟩
     replace c8:=Bool.eq_false_iff.mpr c8;subst c8
     rw [if_neg (show ¬ (false=true) by decide)] at H
     obtain rfl:=sI H
     have ao:0≤(aa:Int):=zd
     have ap:aa<(l0.length:Int):=zd
     obtain⟨aH,aC,aD,au,aw,ak,al⟩:=at_L1 aQ.out aa ao ap
     cases au
     have ag:=A0_ al;have ah:=A0_ ak;clear al ak;replace ao:=eq_true ao;replace ap:=eq_true ap
     have aq:0≤(aa:Int):=zd
     have ar:aa<(l1.length:Int):=zd
     obtain⟨aI,aE,aG,av,ax,am,an⟩:=at_L1 aT.out aa aq ar
     cases av
     have ai:=A0_ an;have aj:=A0_ am;clear an am;replace aq:=eq_true aq;replace ar:=eq_true ar
     go_wp2_with (first|(go_at_call 38;(with_reducible refine(lq_.calls k1 _ _ (rd_L1 l0 aa) _ _ (rd_L1 l1 aa) false _ ?ab ?ac ?ae ?af A7.out).mono ?_);(case ab=>repeat(first|exact ag.out|(with_reducible refine cA ?_ _)|(with_reducible refine cN ?_ _)|(with_reducible refine cD ?_)));(case ac=>exact ah.out);(case ae=>repeat(first|exact ai.out|(with_reducible refine cA ?_ _)|(with_reducible refine cN ?_ _)|(with_reducible refine cD ?_)));(case af=>exact aj.out);rintro e w' ⟨rfl,⟨nd,rfl⟩⟩;(try first|exact⟨rfl,_,World.drewN_drewN _ _ _⟩|exact⟨rfl,_,Eq.trans (World.drewN_drewN _ _ _) (congrArg (World.drewN _) (Nat.add_assoc _ _ _))⟩)))
     repeat(go_quiet (first|(go_at_call 38;(with_reducible refine(lq_.calls k1 _ _ (rd_L1 l0 aa) _ _ (rd_L1 l1 aa) false _ ?ab ?ac ?ae ?af A7.out).mono ?_);(case ab=>repeat(first|exact ag.out|(with_reducible refine cA ?_ _)|(with_reducible refine cN ?_ _)|(with_reducible refine cD ?_)));(case ac=>exact ah.out);(case ae=>repeat(first|exact ai.out|(with_reducible refine cA ?_ _)|(with_reducible refine cN ?_ _)|(with_reducible refine cD ?_)));(case af=>exact aj.out);rintro e w' ⟨rfl,⟨nd,rfl⟩⟩;(try first|exact⟨rfl,_,World.drewN_drewN _ _ _⟩|exact⟨rfl,_,Eq.trans (World.drewN_drewN _ _ _) (congrArg (World.drewN _) (Nat.add_assoc _ _ _))⟩)));try go_wp2_with (first|(go_at_call 38;(with_reducible refine(lq_.calls k1 _ _ (rd_L1 l0 aa) _ _ (rd_L1 l1 aa) false _ ?ab ?ac ?ae ?af A7.out).mono ?_);(case ab=>repeat(first|exact ag.out|(with_reducible refine cA ?_ _)|(with_reducible refine cN ?_ _)|(with_reducible refine cD ?_)));(case ac=>exact ah.out);(case ae=>repeat(first|exact ai.out|(with_reducible refine cA ?_ _)|(with_reducible refine cN ?_ _)|(with_reducible refine cD ?_)));(case af=>exact aj.out);rintro e w' ⟨rfl,⟨nd,rfl⟩⟩;(try first|exact⟨rfl,_,World.drewN_drewN _ _ _⟩|exact⟨rfl,_,Eq.trans (World.drewN_drewN _ _ _) (congrArg (World.drewN _) (Nat.add_assoc _ _ _))⟩))))
     go_ret
     exact⟨by first|rfl|(simp;done)|(simp [*];done),by repeat(first|exact Drawn0.refl _|apply Drawn0.step)⟩
    rw [if_neg c4] at H;have aV:=dF c4;clear c4;obtain rfl:=sI H
    go_wp2
    repeat(go_quiet (fail);try go_wp2)
    go_ret
    exact⟨by first|rfl|(simp;done)|(simp [*];done),by repeat(first|exact Drawn0.refl _|apply Drawn0.step)⟩
 rw [if_neg c3] at H
 have ay:((l0.length:Int) == (l1.length:Int))=false:=beq_eq_false_iff_ne.mpr c3
 have az:((l0.length:Int) != (l1.length:Int))=true:=bne_iff_ne.mpr c3
 have aA:(l0.length == l1.length)=false:=by first|simpa using c3|(simp at c3 ⊢;omega)
 obtain rfl:=sI H
 go_enter Try.func33,Try.ntmps33
 go_wp2
 repeat(go_quiet (fail);try go_wp2)
 go_ret
 exact⟨by first|rfl|(simp;done)|(simp [*];done),by repeat(first|exact Drawn0.refl _|apply Drawn0.step)⟩
def i7_.f (k:Nat) (l0:List Int):Option (List Int×Bool):=(i8_.f l0).bind fun aa=>(if aa=true then ((ib_.f k l0).bind fun ab=>(some (ab,true))) else (some (([]:List Int),false)))
theorem i7_.calls (k:Nat) (A0:Option Addr) (c0:Nat) (l0:List Int) (r1:List Int) (r2:Bool) (w:World) (ai:Kd.C (Kd.int .i64) w A0 l0.length l0) (aj:l0.length≤c0) (h:i7_.f k l0=some (r1,r2)) :
    Calls Try.prog 34 #[.slice A0 l0.length c0] w fun e w' => ∃ v0_:Value,e = .returned (.tuple #[v0_,.bool r2])∧Kd.R (Kd.int .i64) 3 w' w.heap.size (fun _=>True) v0_ r1∧Below w.heap.size w w':=by
 have af:=A0_ ai;have ag:=A0_ aj;clear ai aj
 have HB:=A0_ (Below.refl w.heap.size w)
 have H:((i8_.f l0).bind fun ae=>(if ae=true then ((ib_.f k l0).bind fun ac=>(some (ac,true))) else (some (([]:List Int),false))))=some (r1,r2):=h
 clear h;obtain⟨ae,A2,H⟩:=zbind H
 by_cases c3:ae=true
 ·subst c3
  have H1:((ib_.f k l0).bind fun ac=>(some (ac,true)))=some (r1,r2):=by rw [if_pos rfl] at H;exact H
  clear H;have H:=H1;clear H1;obtain⟨ac,A4,H⟩:=zbind H;simp only [Option.some.injEq,Prod.mk.injEq] at H;obtain⟨rfl,rfl⟩:=H
  go_enter Try.func34,Try.ntmps34
  go_wp2_with (first|((with_reducible refine gC (f:=47) rfl ?_);refine zJ (some 5) Try.func47 #[.slice A0 l0.length c0] ?_;(with_reducible refine(i8_.calls _ _ l0 true _ ?aa ?ab A2.out).mono ?_);(case aa=>repeat(first|exact af.out|(with_reducible refine cA ?_ _)|(with_reducible refine cN ?_ _)|(with_reducible refine cD ?_)));(case ab=>exact ag.out);rintro e w5 ⟨rfl,hb⟩;refine⟨_,rfl,?_⟩;replace HB:=zB HB hb;(try clear hb))|((with_reducible refine gC (f:=60) rfl ?_);refine zJ (some 8) Try.func60 #[.slice A0 l0.length c0] ?_;(with_reducible refine(ib_.calls k _ _ l0 ac _ ?aa ?ab A4.out).mono ?_);(case aa=>exact zC af HB);(case ab=>exact ag.out);rintro e w6 ⟨al,rfl,ak,hb⟩;refine⟨_,rfl,?_⟩;have ah:=A0_ (rL ak (bZ (zB_ HB)));replace HB:=zB HB hb;(try clear hb);(try clear ak)))
  go_ret2
  exact⟨_,by first|rfl|(simp [*] <;> rfl),zR_ ah,zB_ HB⟩
 replace c3:=Bool.eq_false_iff.mpr c3;subst c3
 have H1:(some (([]:List Int),false))=some (r1,r2):=by rw [if_neg (show ¬ (false=true) by decide)] at H;exact H
 clear H;have H:=H1;clear H1;simp only [Option.some.injEq,Prod.mk.injEq] at H;obtain⟨rfl,rfl⟩:=H
 go_enter Try.func34,Try.ntmps34
 go_wp2_with (first|((with_reducible refine gC (f:=47) rfl ?_);refine zJ (some 5) Try.func47 #[.slice A0 l0.length c0] ?_;(with_reducible refine(i8_.calls _ _ l0 false _ ?aa ?ab A2.out).mono ?_);(case aa=>repeat(first|exact af.out|(with_reducible refine cA ?_ _)|(with_reducible refine cN ?_ _)|(with_reducible refine cD ?_)));(case ab=>exact ag.out);rintro e w7 ⟨rfl,hb⟩;refine⟨_,rfl,?_⟩;replace HB:=zB HB hb;(try clear hb)))
 go_ret2
 exact⟨_,by first|rfl|(simp [*] <;> rfl),by first|exact Kd.R_nil _ _ _ _ _|exact Kd.N_nil _ _ _ _ _|exact Kd.V_nil _ _ _ _ _|exact Kd.Q_nil _ _ _ _ _|exact Kd.S_nil _ _ _ _ _,zB_ HB⟩
def c1_.f (a0:Int):Option (Bool):=some (a0 != a0)
theorem c1_.calls (a0:Int) (r:Bool) (w:World) (h:c1_.f a0=some r) :
    Calls Try.prog 119 #[.int .i64 a0] w fun e w'=>e = .returned (.bool r)∧Drawn0 w w':=by
 have H:(some (a0 != a0))=some r:=h
 clear h;obtain rfl:=sI H
 go_enter Try.func119,Try.ntmps119
 go_wp2
 go_ret
 exact⟨by first|rfl|(simp;done)|(simp [*];done),by repeat(first|exact Drawn0.refl _|apply Drawn0.step)⟩
def c0_.f (a0:Int) (a1:Int):Option (Int):=(c1_.f a0).bind fun ab=>((c1_.f a1).bind fun aa=>(if ab=true then (if aa=true then (some 0) else (some (-1))) else (if aa=true then (some 1) else (if a0<a1 then (some (-1)) else (if a0>a1 then (some 1) else (some 0))))))
theorem c0_.calls (a0:Int) (a1:Int) (r:Int) (w:World) (h:c0_.f a0 a1=some r) :
    Calls Try.prog 116 #[.int .i64 a0,.int .i64 a1] w fun e w'=>e = .returned (.int .i64 r)∧Drawn0 w w':=by
 have H:((c1_.f a0).bind fun ab=>((c1_.f a1).bind fun aa=>(if ab=true then (if aa=true then (some 0) else (some (-1))) else (if aa=true then (some 1) else (if a0<a1 then (some (-1)) else (if a0>a1 then (some 1) else (some 0)))))))=some r:=h
 clear h;obtain⟨ab,A3,H⟩:=zbind H;obtain⟨aa,A4,H⟩:=zbind H
 by_cases c5:ab=true
 ·subst c5
  rw [if_pos rfl] at H
  by_cases c6:aa=true
  ·subst c6
   rw [if_pos rfl] at H;obtain rfl:=sI H
   go_enter Try.func116,Try.ntmps116
   go_wp2_with (first|((with_reducible refine gC (f:=119) rfl ?_);refine zJ (some 8) Try.func119 #[.int .i64 a0] ?_;(with_reducible refine(c1_.calls a0 true _ A3.out).mono ?_);rintro e w' ⟨rfl,⟨nd,rfl⟩⟩;refine⟨_,rfl,?_⟩)|((with_reducible refine gC (f:=119) rfl ?_);refine zJ (some 10) Try.func119 #[.int .i64 a1] ?_;(with_reducible refine(c1_.calls a1 true _ A4.out).mono ?_);rintro e w' ⟨rfl,⟨nd,rfl⟩⟩;refine⟨_,rfl,?_⟩))
   go_ret
   exact⟨by first|rfl|(simp;done)|(simp [*];done),by repeat(first|exact Drawn0.refl _|apply Drawn0.step)⟩
  replace c6:=Bool.eq_false_iff.mpr c6;subst c6
  rw [if_neg (show ¬ (false=true) by decide)] at H
  obtain rfl:=sI H
  go_enter Try.func116,Try.ntmps116
  go_wp2_with (first|((with_reducible refine gC (f:=119) rfl ?_);refine zJ (some 8) Try.func119 #[.int .i64 a0] ?_;(with_reducible refine(c1_.calls a0 true _ A3.out).mono ?_);rintro e w' ⟨rfl,⟨nd,rfl⟩⟩;refine⟨_,rfl,?_⟩)|((with_reducible refine gC (f:=119) rfl ?_);refine zJ (some 10) Try.func119 #[.int .i64 a1] ?_;(with_reducible refine(c1_.calls a1 false _ A4.out).mono ?_);rintro e w' ⟨rfl,⟨nd,rfl⟩⟩;refine⟨_,rfl,?_⟩))
  go_ret
  exact⟨by first|rfl|(simp;done)|(simp [*];done),by repeat(first|exact Drawn0.refl _|apply Drawn0.step)⟩
 replace c5:=Bool.eq_false_iff.mpr c5;subst c5
 rw [if_neg (show ¬ (false=true) by decide)] at H
 by_cases c7:aa=true
 ·subst c7
  rw [if_pos rfl] at H;obtain rfl:=sI H
  go_enter Try.func116,Try.ntmps116
  go_wp2_with (first|((with_reducible refine gC (f:=119) rfl ?_);refine zJ (some 8) Try.func119 #[.int .i64 a0] ?_;(with_reducible refine(c1_.calls a0 false _ A3.out).mono ?_);rintro e w' ⟨rfl,⟨nd,rfl⟩⟩;refine⟨_,rfl,?_⟩)|((with_reducible refine gC (f:=119) rfl ?_);refine zJ (some 10) Try.func119 #[.int .i64 a1] ?_;(with_reducible refine(c1_.calls a1 true _ A4.out).mono ?_);rintro e w' ⟨rfl,⟨nd,rfl⟩⟩;refine⟨_,rfl,?_⟩))
  go_ret
  exact⟨by first|rfl|(simp;done)|(simp [*];done),by repeat(first|exact Drawn0.refl _|apply Drawn0.step)⟩
 replace c7:=Bool.eq_false_iff.mpr c7;subst c7
 rw [if_neg (show ¬ (false=true) by decide)] at H
 by_cases c8:a0<a1
 ·rw [if_pos c8] at H
  have ac:=dT c8;clear c8;obtain rfl:=sI H
  go_enter Try.func116,Try.ntmps116
  go_wp2_with (first|((with_reducible refine gC (f:=119) rfl ?_);refine zJ (some 8) Try.func119 #[.int .i64 a0] ?_;(with_reducible refine(c1_.calls a0 false _ A3.out).mono ?_);rintro e w' ⟨rfl,⟨nd,rfl⟩⟩;refine⟨_,rfl,?_⟩)|((with_reducible refine gC (f:=119) rfl ?_);refine zJ (some 10) Try.func119 #[.int .i64 a1] ?_;(with_reducible refine(c1_.calls a1 false _ A4.out).mono ?_);rintro e w' ⟨rfl,⟨nd,rfl⟩⟩;refine⟨_,rfl,?_⟩))
  go_ret
  exact⟨by first|rfl|(simp;done)|(simp [*];done),by repeat(first|exact Drawn0.refl _|apply Drawn0.step)⟩
 rw [if_neg c8] at H;have ac:=dF c8;clear c8
 by_cases c9:a0>a1
 ·rw [if_pos c9] at H
  have ae:decide (a1<a0)=true:=dT c9
  clear c9;obtain rfl:=sI H
  go_enter Try.func116,Try.ntmps116
  go_wp2_with (first|((with_reducible refine gC (f:=119) rfl ?_);refine zJ (some 8) Try.func119 #[.int .i64 a0] ?_;(with_reducible refine(c1_.calls a0 false _ A3.out).mono ?_);rintro e w' ⟨rfl,⟨nd,rfl⟩⟩;refine⟨_,rfl,?_⟩)|((with_reducible refine gC (f:=119) rfl ?_);refine zJ (some 10) Try.func119 #[.int .i64 a1] ?_;(with_reducible refine(c1_.calls a1 false _ A4.out).mono ?_);rintro e w' ⟨rfl,⟨nd,rfl⟩⟩;refine⟨_,rfl,?_⟩))
  go_ret
  exact⟨by first|rfl|(simp;done)|(simp [*];done),by repeat(first|exact Drawn0.refl _|apply Drawn0.step)⟩
 rw [if_neg c9] at H
 have ae:decide (a1<a0)=false:=dF c9
 clear c9;obtain rfl:=sI H
 go_enter Try.func116,Try.ntmps116
 go_wp2_with (first|((with_reducible refine gC (f:=119) rfl ?_);refine zJ (some 8) Try.func119 #[.int .i64 a0] ?_;(with_reducible refine(c1_.calls a0 false _ A3.out).mono ?_);rintro e w' ⟨rfl,⟨nd,rfl⟩⟩;refine⟨_,rfl,?_⟩)|((with_reducible refine gC (f:=119) rfl ?_);refine zJ (some 10) Try.func119 #[.int .i64 a1] ?_;(with_reducible refine(c1_.calls a1 false _ A4.out).mono ?_);rintro e w' ⟨rfl,⟨nd,rfl⟩⟩;refine⟨_,rfl,?_⟩))
 go_ret
 exact⟨by first|rfl|(simp;done)|(simp [*];done),by repeat(first|exact Drawn0.refl _|apply Drawn0.step)⟩
def st_.l0:Nat→List Int→List Int→List Int→Int→Int→Option (Int)
  | 0,_,_,_,_,_=>none
  | k+1,x0,x1,x9,ac,aa=>if aa<ac then (if 0≤aa then (if aa<(x9.length:Int) then (if aa≥(x1.length:Int) then (some 1) else (if aa<(x1.length:Int) then ((c0_.f (rd x9 aa) (rd x1 aa)).bind fun ab=>(if ab=0 then (st_.l0 k x0 x1 x9 ac (wrap64 (aa+1))) else (some ab))) else (none))) else (none)) else (none)) else (if (x0.length:Int)<(x1.length:Int) then (some (-1)) else (some 0))
def st_.f (k:Nat) (l0:List Int) (l1:List Int):Option (Int):=st_.l0 k l0 l1 l0 (l0.length:Int) 0
theorem st_.calls (k:Nat) (A0:Option Addr) (c0:Nat) (l0:List Int) (A1:Option Addr) (c1:Nat) (l1:List Int) (r:Int) (w:World) (ar:Kd.C (Kd.int .i64) w A0 l0.length l0) (au:l0.length≤c0) (av:Kd.C (Kd.int .i64) w A1 l1.length l1) (aw:l1.length≤c1) (h:st_.f k l0 l1=some r) :
    Calls Try.prog 110 #[.slice A0 l0.length c0,.slice A1 l1.length c1] w fun e w'=>e = .returned (.int .i64 r)∧Drawn0 w w':=by
 have an:=A0_ ar;have aI:=A0_ au;clear ar au;have ax:=A0_ av;have aJ:=A0_ aw;clear av aw
 have H:(st_.l0 k l0 l1 l0 (l0.length:Int) 0)=some r:=h
 clear h;have H':=A0_ H;clear H
 go_enter Try.func110,Try.ntmps110
 go_wp2
 go_loopg [11] k (fun kq v11 w' => ∃ (aa:Int),v11 = .int .i64 aa∧Aside0 (st_.l0 kq l0 l1 l0 (l0.length:Int) aa=some r)∧Aside0 (kq≤k)∧Drawn0 w w')
 case atStart=>exact⟨(0),zt,H',⟨Nat.le_refl _⟩,by repeat(first|exact Drawn0.refl _|apply Drawn0.step)⟩
 case round =>
  clear H';(try clear c1);obtain⟨aa,rfl,HA,ay,⟨m1,rfl⟩⟩:=hrel
  cases gk with
  | zero=>exact absurd HA.out (by simp [st_.l0])
  | succ k1 =>
   have H:=HA.out;clear HA;simp only [st_.l0] at H
   by_cases c3:aa<(l0.length:Int)
   ·rw [if_pos c3] at H
    have az:=dT c3;clear c3
    have c4:=zpc H;replace H:=zph H
    have aE:=dT c4;clear c4
    have c5:=zpc H;replace H:=zph H
    have aG:=dT c5;clear c5
    by_cases c6:aa≥(l1.length:Int)
    ·rw [if_pos c6] at H
     have aA:decide ((l1.length:Int)≤aa)=true:=dT c6
     clear c6;obtain rfl:=sI H
     have ab:0≤(aa:Int):=zd
     have ac:aa<(l0.length:Int):=zd
     obtain⟨al,ai,aj⟩:=tI an.out aa ab ac
     cases ai
     replace ab:=eq_true ab;replace ac:=eq_true ac
     go_wp2
     go_ret
     exact⟨by first|rfl|(simp;done)|(simp [*];done),by repeat(first|exact Drawn0.refl _|apply Drawn0.step)⟩
    rw [if_neg c6] at H
    have aA:decide ((l1.length:Int)≤aa)=false:=dF c6
    clear c6
    have c7:=zpc H;replace H:=zph H
    have aH:=dT c7;clear c7;obtain⟨ae,A8,H⟩:=zbind H
    by_cases c9:ae=0
    ·rw [if_pos c9] at H
     have aC:(ae == 0)=true:=beq_iff_eq.mpr c9
     have aD:(ae != 0)=false:=bne_eq_false_iff_eq.mpr c9
     clear c9;have H':=A0_ H;clear H
     have ab:0≤(aa:Int):=zd
     have ac:aa<(l0.length:Int):=zd
     obtain⟨al,ai,aj⟩:=tI an.out aa ab ac
     cases ai
     replace ab:=eq_true ab;replace ac:=eq_true ac
     have af:0≤(aa:Int):=zd
     have ag:aa<(l1.length:Int):=zd
     obtain⟨ao,ak,am⟩:=tI ax.out aa af ag
     cases ak
     replace af:=eq_true af;replace ag:=eq_true ag
     go_wp2_with (first|((with_reducible refine gC (f:=116) rfl ?_);refine zJ (some 26) Try.func116 #[.int .i64 (rd l0 aa),.int .i64 (rd l1 aa)] ?_;(with_reducible refine(c0_.calls (rd l0 aa) (rd l1 aa) ae _ A8.out).mono ?_);rintro e w' ⟨rfl,⟨nd,rfl⟩⟩;refine⟨_,rfl,?_⟩))
     go_roundg k1
     case measure=>have:=ay.out;omega
     case rel=>exact⟨(wrap64 (aa+1)),zt,H',⟨by have:=ay.out;omega⟩,by repeat(first|exact Drawn0.refl _|apply Drawn0.step)⟩
    rw [if_neg c9] at H
    have aC:(ae == 0)=false:=beq_eq_false_iff_ne.mpr c9
    have aD:(ae != 0)=true:=bne_iff_ne.mpr c9
    obtain rfl:=sI H
    have ab:0≤(aa:Int):=zd
    have ac:aa<(l0.length:Int):=zd
    obtain⟨al,ai,aj⟩:=tI an.out aa ab ac
    cases ai
    replace ab:=eq_true ab;replace ac:=eq_true ac
    have af:0≤(aa:Int):=zd
    have ag:aa<(l1.length:Int):=zd
    obtain⟨ao,ak,am⟩:=tI ax.out aa af ag
    cases ak
    replace af:=eq_true af;replace ag:=eq_true ag
    go_wp2_with (first|((with_reducible refine gC (f:=116) rfl ?_);refine zJ (some 26) Try.func116 #[.int .i64 (rd l0 aa),.int .i64 (rd l1 aa)] ?_;(with_reducible refine(c0_.calls (rd l0 aa) (rd l1 aa) ae _ A8.out).mono ?_);rintro e w' ⟨rfl,⟨nd,rfl⟩⟩;refine⟨_,rfl,?_⟩))
    go_ret
    exact⟨by first|rfl|(simp;done)|(simp [*];done),by repeat(first|exact Drawn0.refl _|apply Drawn0.step)⟩
   rw [if_neg c3] at H;have az:=dF c3;clear c3
   by_cases ah:(l0.length:Int)<(l1.length:Int)
   ·rw [if_pos ah] at H
    have ap:=dT ah
    have aq:decide (l0.length<l1.length)=true:=dT (Int.ofNat_lt.mp ah)
    clear ah;obtain rfl:=sI H
    go_wp2
    go_ret
    exact⟨by first|rfl|(simp;done)|(simp [*];done),by repeat(first|exact Drawn0.refl _|apply Drawn0.step)⟩
   rw [if_neg ah] at H;have ap:=dF ah
   have aq:decide (l0.length<l1.length)=false:=dF (fun h=>ah (Int.ofNat_lt.mpr h))
   clear ah;obtain rfl:=sI H
   go_wp2
   go_ret
   exact⟨by first|rfl|(simp;done)|(simp [*];done),by repeat(first|exact Drawn0.refl _|apply Drawn0.step)⟩
def ic_.f (k:Nat) (ab:List Int) (ac:List Int) (ae:List Int) (af:List Int):Option (Int):=(st_.f k ab ae).bind fun aa=>(if aa=0 then ((st_.f k ac af).bind fun ag=>(some ag)) else (some aa))
theorem ic_.calls (k:Nat) (ao:Option Addr) (ap:Nat) (ab:List Int) (au:Option Addr) (av:Nat) (af:List Int) (aq:Option Addr) (ar:Nat) (ac:List Int) (aw:Option Addr) (ax:Nat) (ag:List Int) (r:Int) (w:World) (az:Kd.C (Kd.int .i64) w ao ab.length ab) (aA:ab.length≤ap) (aC:Kd.C (Kd.int .i64) w au af.length af) (aD:af.length≤av) (aE:Kd.C (Kd.int .i64) w aq ac.length ac) (aG:ac.length≤ar) (aH:Kd.C (Kd.int .i64) w aw ag.length ag) (aI:ag.length≤ax) (h:ic_.f k ab af ac ag=some r) :
    Calls Try.prog 84 #[.agg #[.slice ao ab.length ap,.slice au af.length av],.agg #[.slice aq ac.length ar,.slice aw ag.length ax]] w fun e w'=>e = .returned (.int .i64 r)∧Below w.heap.size w w':=by
 have bq:=Try.underlying25;have aJ:=A0_ az;have aK:=A0_ aA;clear az aA;have aQ:=A0_ aC;have aT:=A0_ aD;clear aC aD;have aM:=A0_ aE;have aN:=A0_ aG;clear aE aG;have aU:=A0_ aH;have aV:=A0_ aI;clear aH aI
 have HB:=A0_ (Below.refl w.heap.size w)
 have H:((st_.f k ab ac).bind fun ah=>(if ah=0 then ((st_.f k af ag).bind fun ay=>(some ay)) else (some ah)))=some r:=h
 clear h;obtain⟨ah,A3,H⟩:=zbind H
 by_cases c4:ah=0
 ·rw [if_pos c4] at H
  have a6:(ah == 0)=true:=beq_iff_eq.mpr c4
  have a7:(ah != 0)=false:=bne_eq_false_iff_eq.mpr c4
  clear c4;obtain⟨ay,A5,H⟩:=zbind H;obtain rfl:=sI H
  go_enter Try.func84,Try.ntmps84
  go_wp2_with (first|((with_reducible refine gD (N:=2) rfl ?_);refine zX (N:=2) (cs := #[.slice ao ab.length ap,.slice au af.length av]) (t:=25) ?_;intro aW hg w6 hbox hb;have aa:=A0_ (hbox);have aX:=zG hg HB;have aY:=zG hg HB;replace HB:=zB HB hb;clear hb hbox hg)|((with_reducible refine gD (N:=3) rfl ?_);refine zX (N:=3) (cs := #[.slice aq ac.length ar,.slice aw ag.length ax]) (t:=25) ?_;intro aZ hg w7 hbox hb;have ae:=A0_ (hbox);have a4:=zG hg HB;have a5:=zG hg HB;replace HB:=zB HB hb;have ai:=zL hg aa;have aj:=zM hg aa;replace aa:=zK aa hb;clear hb hbox hg;have br:=ai.out;have bu:=aj.out;have bk:=zc0 aa;have bl:=zc1 aa;have bm:=kF aa.out 0;have bn:=kF aa.out 1;have a8:=zc0 ae;have a9:=zc1 ae;have ba:=kF ae.out 0;have bb:=kF ae.out 1)|((with_reducible refine gC (f:=110) rfl ?_);refine zJ (some 10) Try.func110 #[.slice ao ab.length ap,.slice aq ac.length ar] ?_;(with_reducible refine(st_.calls k _ _ ab _ _ ac ah _ ?ak ?al ?am ?an A3.out).mono ?_);(case ak=>exact zC aJ HB);(case al=>exact aK.out);(case am=>exact zC aM HB);(case an=>exact aN.out);rintro e w' ⟨rfl,⟨nd,rfl⟩⟩;refine⟨_,rfl,?_⟩)|((with_reducible refine gC (f:=110) rfl ?_);refine zJ (some 18) Try.func110 #[.slice au af.length av,.slice aw ag.length ax] ?_;(with_reducible refine(st_.calls k _ _ af _ _ ag ay _ ?ak ?al ?am ?an A5.out).mono ?_);(case ak=>repeat(first|exact(cB aQ.out (zB_ HB))|(with_reducible refine cA ?_ _)|(with_reducible refine cN ?_ _)|(with_reducible refine cD ?_)));(case al=>exact aT.out);(case am=>repeat(first|exact(cB aU.out (zB_ HB))|(with_reducible refine cA ?_ _)|(with_reducible refine cN ?_ _)|(with_reducible refine cD ?_)));(case an=>exact aV.out);rintro e w' ⟨rfl,⟨nd,rfl⟩⟩;refine⟨_,rfl,?_⟩))
  go_ret
  exact⟨by first|rfl|(simp [*] <;> rfl),zB_ HB⟩
 rw [if_neg c4] at H
 have a6:(ah == 0)=false:=beq_eq_false_iff_ne.mpr c4
 have a7:(ah != 0)=true:=bne_iff_ne.mpr c4
 obtain rfl:=sI H
 go_enter Try.func84,Try.ntmps84
 go_wp2_with (first|((with_reducible refine gD (N:=2) rfl ?_);refine zX (N:=2) (cs := #[.slice ao ab.length ap,.slice au af.length av]) (t:=25) ?_;intro aW hg w11 hbox hb;have aa:=A0_ (hbox);have aX:=zG hg HB;have aY:=zG hg HB;replace HB:=zB HB hb;clear hb hbox hg)|((with_reducible refine gD (N:=3) rfl ?_);refine zX (N:=3) (cs := #[.slice aq ac.length ar,.slice aw ag.length ax]) (t:=25) ?_;intro aZ hg w12 hbox hb;have ae:=A0_ (hbox);have a4:=zG hg HB;have a5:=zG hg HB;replace HB:=zB HB hb;have ai:=zL hg aa;have aj:=zM hg aa;replace aa:=zK aa hb;clear hb hbox hg;have bo:=ai.out;have bp:=aj.out;have bc:=zc0 aa;have bd:=zc1 aa;have be:=kF aa.out 0;have bf:=kF aa.out 1;have bg:=zc0 ae;have bh:=zc1 ae;have bi:=kF ae.out 0;have bj:=kF ae.out 1)|((with_reducible refine gC (f:=110) rfl ?_);refine zJ (some 10) Try.func110 #[.slice ao ab.length ap,.slice aq ac.length ar] ?_;(with_reducible refine(st_.calls k _ _ ab _ _ ac ah _ ?ak ?al ?am ?an A3.out).mono ?_);(case ak=>exact zC aJ HB);(case al=>exact aK.out);(case am=>exact zC aM HB);(case an=>exact aN.out);rintro e w' ⟨rfl,⟨nd,rfl⟩⟩;refine⟨_,rfl,?_⟩))
 go_ret
 exact⟨by first|rfl|(simp [*] <;> rfl),zB_ HB⟩
end Go.Proofs.Ytmegggomhjgehaa.PFnCoverConj
