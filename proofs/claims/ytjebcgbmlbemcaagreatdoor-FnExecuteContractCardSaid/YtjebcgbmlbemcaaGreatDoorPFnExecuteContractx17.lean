import Derived.Test.YtjebcgbmlbemcaaGreatDoorPFnExecuteContractx16
namespace Go.Proofs.YtjebcgbmlbemcaaGreatDoor.PFnExecuteContract
open Go.RowKit Go.Proofs.YtjebcgbmlbemcaaGreatDoorW.PrintWords Go.Proofs.YtjebcgbmlbemcaaGreatDoorW.PrintLast Go.Proofs.YtjebcgbmlbemcaaGreatDoorW.PrintMore
set_option maxHeartbeats 8000000
set_option maxRecDepth 100000
attribute [local go_sem] max2_int min2_int max_two min_two max_three min_three max_four min_four
set_option linter.unusedVariables false
set_option linter.unusedSimpArgs false
def ss_.l0:Nat→List Int→Int→Int→List Int→List Int→Option (Bool)
  | 0,_,_,_,_,_=>none
  | k+1,x1,x5,x6,ab,aa=>if x6<(x1.length:Int) then (if 0≤x6 then ((s13_.f (rd x1 x6) (wrap64 (x5+1)) (wrap64 ((wrap64 ((aa.length:Int) / 2)) - 1))).bind fun ac=>(if ac=true then (ss_.l0 k x1 (rd x1 x6) (wrap64 (x6+1)) ab aa) else (some false))) else (none)) else ((sw_.f k ab aa).bind fun af=>(some af))
def ss_.f (k:Nat) (aa:List Int) (ab:List Int) (l1:List Int):Option (Bool):=ss_.l0 k l1 (-1) 0 aa ab
theorem ss_.calls (k:Nat) (au:Option Addr) (av:Nat) (ah:List Int) (aw:Option Addr) (ax:Nat) (ac:List Int) (A1:Option Addr) (c1:Nat) (l1:List Int) (r:Bool) (w:World) (aK:Kd.C (Kd.int .i64) w au ah.length ah) (aM:ah.length≤av) (aN:Kd.C (Kd.int .i64) w aw ac.length ac) (aQ:ac.length≤ax) (aW:Kd.C (Kd.int .i64) w A1 l1.length l1) (aX:l1.length≤c1) (h:ss_.f k ah ac l1=some r) :
    Calls Tryz.prog 121 #[.agg #[.slice au ah.length av,.slice aw ac.length ax],.slice A1 l1.length c1] w fun e w'=>e = .returned (.bool r)∧Below w.heap.size w w':=by
 have bh:=Tryz.underlying25;have aA:=A0_ aK;have aC:=A0_ aM;clear aK aM;have aD:=A0_ aN;have aE:=A0_ aQ;clear aN aQ;have aH:=A0_ aW;have bj:=A0_ aX;clear aW aX
 have HB:=A0_ (Below.refl w.heap.size w)
 have H:(ss_.l0 k l1 (-1) 0 ah ac)=some r:=h
 clear h;have H':=A0_ H;clear H
 go_enter Tryz.func121,Tryz.ntmps121
 go_wp2_with (first|((with_reducible refine gD (N:=2) rfl ?_);refine zX (N:=2) (cs := #[.slice au ah.length av,.slice aw ac.length ax]) (t:=25) ?_;intro aG hg w3 hbox hb;have ab:=A0_ (hbox);have aT:=zG hg HB;have aU:=zG hg HB;replace HB:=zB HB hb;clear hb hbox hg))
 repeat(go_quiet (first|((with_reducible refine gD (N:=2) rfl ?_);refine zX (N:=2) (cs := #[.slice au ah.length av,.slice aw ac.length ax]) (t:=25) ?_;intro aG hg w3 hbox hb;have ab:=A0_ (hbox);have aT:=zG hg HB;have aU:=zG hg HB;replace HB:=zB HB hb;clear hb hbox hg));try go_wp2_with (first|((with_reducible refine gD (N:=2) rfl ?_);refine zX (N:=2) (cs := #[.slice au ah.length av,.slice aw ac.length ax]) (t:=25) ?_;intro aG hg w3 hbox hb;have n0_:=zB HB hb;have n1_:=A0_ (hbox);have n2_:=zG hg HB;have n3_:=zG hg HB;clear HB;have HB:=n0_;have ab:=n1_;have aT:=n2_;have aU:=n3_;clear n0_ n1_ n2_ n3_ hb hbox hg)))
 go_loopg [5,6] k (fun kq v5 v6 w' => ∃ (ag:Int) (aa:Int),v5 = .int .i64 ag∧v6 = .int .i64 aa∧Aside0 (ss_.l0 kq l1 ag aa ah ac=some r)∧Aside0 (kq≤k)∧Aside0 (w'.heap[aG]? = some (.cells #[(.slice au ah.length av),(.slice aw ac.length ax)] 25 (0,0)))∧Aside0 (Below w.heap.size w w'))
 case atStart=>exact⟨((-1)),(0),zt,zt,H',⟨Nat.le_refl _⟩,⟨zK_ ab⟩,⟨zB_ HB⟩⟩
 case round =>
  clear H';(try clear c1);obtain⟨ag,aa,rfl,rfl,HA,aY,ab,HB⟩:=hrel
  cases gk with
  | zero=>exact absurd HA.out (by simp [ss_.l0])
  | succ k1 =>
   have H:=HA.out;clear HA;simp only [ss_.l0] at H
   by_cases c4:aa<(l1.length:Int)
   ·rw [if_pos c4] at H
    have aZ:=dT c4;clear c4
    have c5:=zpc H;replace H:=zph H
    have bi:=dT c5;clear c5;obtain⟨a4,A6,H⟩:=zbind H
    by_cases c7:a4=true
    ·subst c7
     rw [if_pos rfl] at H;have H':=A0_ H;clear H
     have al:0≤(aa:Int):=zd
     have am:aa<(l1.length:Int):=zd
     obtain⟨ay,aI,ai⟩:=tI aH.out aa al am
     cases aI
     try replace ai:=(HB.out.cell (wL w _ ai)).trans ai
     replace al:=eq_true al;replace am:=eq_true am;have a9:=zc0 ab;have ba:=zc1 ab;have bb:=kF ab.out 0;have bc:=kF ab.out 1
     go_wp2_with (first|(go_at_call 42;(refine calls_of_args (args' := #[.int .i64 (rd l1 aa),.int .i64 (wrap64 (ag+1)),.int .i64 (wrap64 ((wrap64 ((ac.length:Int) / 2)) - 1))]) (by simp only [i64_w]) ?_);(with_reducible refine(s13_.calls (rd l1 aa) (wrap64 (ag+1)) (wrap64 ((wrap64 ((ac.length:Int) / 2)) - 1)) true _ A6.out).mono ?_);rintro e w' ⟨rfl,⟨nd,rfl⟩⟩;(try first|exact⟨rfl,_,World.drewN_drewN _ _ _⟩|exact⟨rfl,_,Eq.trans (World.drewN_drewN _ _ _) (congrArg (World.drewN _) (Nat.add_assoc _ _ _))⟩);have aj:0≤(aa:Int):=zd;have ak:aa<(l1.length:Int):=zd;obtain⟨an,az,af⟩:=tI aH.out aa aj ak;obtain rfl:ay=an:=(by injection az);try replace af:=(HB.out.cell (wL w _ af)).trans af;replace aj:=eq_true aj;replace ak:=eq_true ak))
     repeat(go_quiet (first|(go_at_call 42;(refine calls_of_args (args' := #[.int .i64 (rd l1 aa),.int .i64 (wrap64 (ag+1)),.int .i64 (wrap64 ((wrap64 ((ac.length:Int) / 2)) - 1))]) (by simp only [i64_w]) ?_);(with_reducible refine(s13_.calls (rd l1 aa) (wrap64 (ag+1)) (wrap64 ((wrap64 ((ac.length:Int) / 2)) - 1)) true _ A6.out).mono ?_);rintro e w' ⟨rfl,⟨nd,rfl⟩⟩;(try first|exact⟨rfl,_,World.drewN_drewN _ _ _⟩|exact⟨rfl,_,Eq.trans (World.drewN_drewN _ _ _) (congrArg (World.drewN _) (Nat.add_assoc _ _ _))⟩);have aj:0≤(aa:Int):=zd;have ak:aa<(l1.length:Int):=zd;obtain⟨an,az,af⟩:=tI aH.out aa aj ak;obtain rfl:ay=an:=(by injection az);try replace af:=(HB.out.cell (wL w _ af)).trans af;replace aj:=eq_true aj;replace ak:=eq_true ak));try go_wp2_with (first|(go_at_call 42;(refine calls_of_args (args' := #[.int .i64 (rd l1 aa),.int .i64 (wrap64 (ag+1)),.int .i64 (wrap64 ((wrap64 ((ac.length:Int) / 2)) - 1))]) (by simp only [i64_w]) ?_);(with_reducible refine(s13_.calls (rd l1 aa) (wrap64 (ag+1)) (wrap64 ((wrap64 ((ac.length:Int) / 2)) - 1)) true _ A6.out).mono ?_);rintro e w' ⟨rfl,⟨nd,rfl⟩⟩;(try first|exact⟨rfl,_,World.drewN_drewN _ _ _⟩|exact⟨rfl,_,Eq.trans (World.drewN_drewN _ _ _) (congrArg (World.drewN _) (Nat.add_assoc _ _ _))⟩);have aj:0≤(aa:Int):=zd;have ak:aa<(l1.length:Int):=zd;obtain⟨an,az,af⟩:=tI aH.out aa aj ak;obtain rfl:ay=an:=(by injection az);try replace af:=(HB.out.cell (wL w _ af)).trans af;replace aj:=eq_true aj;replace ak:=eq_true ak)))
     go_roundg k1
     case measure=>have:=aY.out;omega
     case rel=>exact⟨(rd l1 aa),(wrap64 (aa+1)),zt,zt,H',⟨by have:=aY.out;omega⟩,⟨zK_ ab⟩,⟨zB_ HB⟩⟩
    replace c7:=Bool.eq_false_iff.mpr c7;subst c7
    rw [if_neg (show ¬ (false=true) by decide)] at H
    obtain rfl:=sI H
    have al:0≤(aa:Int):=zd
    have am:aa<(l1.length:Int):=zd
    obtain⟨ay,aI,ai⟩:=tI aH.out aa al am
    cases aI
    try replace ai:=(HB.out.cell (wL w _ ai)).trans ai
    replace al:=eq_true al;replace am:=eq_true am;have bd:=zc0 ab;have be:=zc1 ab;have bf:=kF ab.out 0;have bg:=kF ab.out 1
    go_wp2_with (first|(go_at_call 42;(refine calls_of_args (args' := #[.int .i64 (rd l1 aa),.int .i64 (wrap64 (ag+1)),.int .i64 (wrap64 ((wrap64 ((ac.length:Int) / 2)) - 1))]) (by simp only [i64_w]) ?_);(with_reducible refine(s13_.calls (rd l1 aa) (wrap64 (ag+1)) (wrap64 ((wrap64 ((ac.length:Int) / 2)) - 1)) false _ A6.out).mono ?_);rintro e w' ⟨rfl,⟨nd,rfl⟩⟩;(try first|exact⟨rfl,_,World.drewN_drewN _ _ _⟩|exact⟨rfl,_,Eq.trans (World.drewN_drewN _ _ _) (congrArg (World.drewN _) (Nat.add_assoc _ _ _))⟩)))
    repeat(go_quiet (first|(go_at_call 42;(refine calls_of_args (args' := #[.int .i64 (rd l1 aa),.int .i64 (wrap64 (ag+1)),.int .i64 (wrap64 ((wrap64 ((ac.length:Int) / 2)) - 1))]) (by simp only [i64_w]) ?_);(with_reducible refine(s13_.calls (rd l1 aa) (wrap64 (ag+1)) (wrap64 ((wrap64 ((ac.length:Int) / 2)) - 1)) false _ A6.out).mono ?_);rintro e w' ⟨rfl,⟨nd,rfl⟩⟩;(try first|exact⟨rfl,_,World.drewN_drewN _ _ _⟩|exact⟨rfl,_,Eq.trans (World.drewN_drewN _ _ _) (congrArg (World.drewN _) (Nat.add_assoc _ _ _))⟩)));try go_wp2_with (first|(go_at_call 42;(refine calls_of_args (args' := #[.int .i64 (rd l1 aa),.int .i64 (wrap64 (ag+1)),.int .i64 (wrap64 ((wrap64 ((ac.length:Int) / 2)) - 1))]) (by simp only [i64_w]) ?_);(with_reducible refine(s13_.calls (rd l1 aa) (wrap64 (ag+1)) (wrap64 ((wrap64 ((ac.length:Int) / 2)) - 1)) false _ A6.out).mono ?_);rintro e w' ⟨rfl,⟨nd,rfl⟩⟩;(try first|exact⟨rfl,_,World.drewN_drewN _ _ _⟩|exact⟨rfl,_,Eq.trans (World.drewN_drewN _ _ _) (congrArg (World.drewN _) (Nat.add_assoc _ _ _))⟩))))
    go_ret
    exact⟨by first|rfl|(simp [*] <;> rfl),zB_ HB⟩
   rw [if_neg c4] at H;have aZ:=dF c4;clear c4;obtain⟨aJ,aV,H⟩:=zbind H;obtain rfl:=sI H;have a5:=zc0 ab;have a6:=zc1 ab;have a7:=kF ab.out 0;have a8:=kF ab.out 1
   go_wp2_with (first|(go_at_call 27;(with_reducible refine(sw_.calls k1 _ _ ah _ _ ac aJ _ ?ao ?ap ?aq ?ar aV.out).mono ?_);(case ao=>exact zC aA HB);(case ap=>exact aC.out);(case aq=>exact zC aD HB);(case ar=>exact aE.out);rintro e w12 ⟨rfl,hb⟩;replace ab:=zK ab hb;replace HB:=zB HB hb;(try clear hb)))
   repeat(go_quiet (first|(go_at_call 27;(with_reducible refine(sw_.calls k1 _ _ ah _ _ ac aJ _ ?ao ?ap ?aq ?ar aV.out).mono ?_);(case ao=>exact zC aA HB);(case ap=>exact aC.out);(case aq=>exact zC aD HB);(case ar=>exact aE.out);rintro e w12 ⟨rfl,hb⟩;replace ab:=zK ab hb;replace HB:=zB HB hb;(try clear hb)));try go_wp2_with (first|(go_at_call 27;(with_reducible refine(sw_.calls k1 _ _ ah _ _ ac aJ _ ?ao ?ap ?aq ?ar aV.out).mono ?_);(case ao=>exact zC aA HB);(case ap=>exact aC.out);(case aq=>exact zC aD HB);(case ar=>exact aE.out);rintro e w12 ⟨rfl,hb⟩;have n0_:=zK ab hb;have n1_:=zB HB hb;clear ab HB;have ab:=n0_;have HB:=n1_;clear n0_ n1_;(try clear hb);)))
   go_ret
   exact⟨by first|rfl|(simp [*] <;> rfl),zB_ HB⟩
mutual
def sr_.l0:Nat→List Int→List Int→Int→List Int→List Int→Option (List Int×Bool)
  | 0,_,_,_,_,_=>none
  | k+1,x1,x6,x7,ab,aa=>if x7<(wrap64 ((aa.length:Int) / 2)) then ((ss_.f k ab aa x1).bind fun ac=>(sr_.j1 k x1 x6 x7 ac ab aa)) else (sr_.j1 k x1 x6 x7 false ab aa)
def sr_.j1:Nat→List Int→List Int→Int→Bool→List Int→List Int→Option (List Int×Bool)
  | 0,_,_,_,_,_,_=>none
  | k+1,x1,x6,x7,ag,aa,ab=>if ag=true then ((s18_.f k x1 x7).bind fun ac=>(if ac=true then (sr_.l0 k x1 x6 (wrap64 (x7+1)) aa ab) else (if x6.length<17592186044416 then (sr_.l0 k x1 (x6 ++ [x7]) (wrap64 (x7+1)) aa ab) else (none)))) else ((ss_.f k aa ab x1).bind fun af=>(some (x6,af)))
end
def sr_.f (k:Nat) (aa:List Int) (ab:List Int) (l1:List Int):Option (List Int×Bool):=sr_.l0 k l1 (([]:List Int)) 0 aa ab
theorem sr_.calls (k:Nat) (al:Option Addr) (am:Nat) (ac:List Int) (an:Option Addr) (ao:Nat) (ab:List Int) (A1:Option Addr) (c1:Nat) (l1:List Int) (r1:List Int) (r2:Bool) (w:World) (aG:Kd.C (Kd.int .i64) w al ac.length ac) (aH:ac.length≤am) (aI:Kd.C (Kd.int .i64) w an ab.length ab) (aJ:ab.length≤ao) (bb:Kd.C (Kd.int .i64) w A1 l1.length l1) (bc:l1.length≤c1) (h:sr_.f k ac ab l1=some (r1,r2)) :
    Calls Tryz.prog 93 #[.agg #[.slice al ac.length am,.slice an ab.length ao],.slice A1 l1.length c1] w fun e w' => ∃ v0_:Value,e = .returned (.tuple #[v0_,.bool r2])∧Kd.R (Kd.int .i64) 3 w' w.heap.size (fun _=>True) v0_ r1∧Below w.heap.size w w':=by
 have bx:=Tryz.underlying25;have aK:=A0_ aG;have aM:=A0_ aH;clear aG aH;have aN:=A0_ aI;have aQ:=A0_ aJ;clear aI aJ;have aT:=A0_ bb;have aU:=A0_ bc;clear bb bc
 have HB:=A0_ (Below.refl w.heap.size w)
 have H:(sr_.l0 k l1 (([]:List Int)) 0 ac ab)=some (r1,r2):=h
 clear h
 obtain⟨aZ,au⟩ : ∃ y_:List Int,y_=(([]:List Int)):=⟨_,rfl⟩
 replace H:(sr_.l0 k l1 aZ 0 ac ab)=some (r1,r2):=zH au H
 have aV:=A0_ au;clear au;have H':=A0_ H;clear H
 go_enter Tryz.func93,Tryz.ntmps93
 go_wp2_with (first|((with_reducible refine gD (N:=2) rfl ?_);refine zX (N:=2) (cs := #[.slice al ac.length am,.slice an ab.length ao]) (t:=25) ?_;intro av hg w3 hbox hb;have aa:=A0_ (hbox);have bu:=zG hg HB;have bv:=zG hg HB;replace HB:=zB HB hb;clear hb hbox hg)|((with_reducible refine gD (N:=8) rfl ?_);refine Kd.R_lit (Kd.int .i64) _ 3 ?hg (N:=8) ?hd (xs:=([]:List Int)) (inner := []) (ok:=fun _=>True) (okp:=fun _=>True) ?hr ?hp (fun _ hk=>hk) trivial (Below.refl _ _) (Nat.le_refl _) (by simp) ?_;(case hd=>rfl);(case hg=>rfl);(case hr=>first|(go_simp;done)|(go_simp;rfl));(case hp=>exact(Reps.none _ _));intro bz w4 aC hb hg_ hnew_;clear hg_ hnew_;(first|rw [← aV.out] at aC|(simp only [Int.reduceToNat] at aC;rw [← aV.out] at aC));have a7:=A0_ (rL aC (bZ (zB_ HB)));replace aa:=zK aa hb;replace HB:=zB HB hb;clear hb aC))
 go_loopg [6,7] k (fun kq v6 v7 w' => ∃ (ag:List Int) (af:Int),v7 = .int .i64 af∧Aside0 (sr_.l0 kq l1 ag af ac ab=some (r1,r2))∧Aside0 (kq≤k)∧Aside0 (Kd.R (Kd.int .i64) 3 w' w.heap.size (fun _=>True) v6 ag)∧Aside0 (w'.heap[av]? = some (.cells #[(.slice al ac.length am),(.slice an ab.length ao)] 25 (0,0)))∧Aside0 (Below w.heap.size w w'))
 case atStart=>exact⟨(aZ),(0),zt,H',⟨Nat.le_refl _⟩,⟨zR_ a7⟩,⟨zK_ aa⟩,⟨zB_ HB⟩⟩
 case round =>
  clear H';(try clear c1);obtain⟨ag,af,rfl,HA,ar,ah,aa,HB⟩:=hrel
  cases gk with
  | zero=>exact absurd HA.out (by simp [sr_.l0])
  | succ k1 =>
   have H:=HA.out;clear HA;simp only [sr_.l0] at H;have a4:=A0_ H;clear H
   go_upto_region 3 with(fail)
   go_cut [19] (fun v19 wc => ∃ (kq:Nat) (ap:Bool),v19 = .bool ap∧Aside0 (sr_.j1 kq l1 ag af ap ac ab=some (r1,r2))∧Aside0 (kq≤k1)∧Aside0 (Kd.R (Kd.int .i64) 3 wc w.heap.size (fun _=>True) u6 ag)∧Aside0 (wc.heap[av]? = some (.cells #[(.slice al ac.length am),(.slice an ab.length ao)] 25 (0,0)))∧Aside0 (Below w.heap.size w wc))
   case first =>
    have H:=a4.out;clear a4
    by_cases c7:af<(wrap64 ((ab.length:Int) / 2))
    ·rw [if_pos c7] at H
     have aq:=dT c7;clear c7
     (first|rw [aq]|(simp only [i64_w,i32_w];rw [aq])|skip)
     obtain⟨a5,A8,H⟩:=zbind H;have H':=A0_ H;clear H;have bn:=zc0 aa;have bo:=zc1 aa;have bp:=kF aa.out 0;have bq:=kF aa.out 1
     go_wp2_with (first|(go_at_call 121;(with_reducible refine(ss_.calls k1 _ _ ac _ _ ab _ _ l1 a5 _ ?ai ?aj ?aw ?ax ?ay ?az A8.out).mono ?_);(case ai=>exact zC aK HB);(case aj=>exact aM.out);(case aw=>exact zC aN HB);(case ax=>exact aQ.out);(case ay=>exact zC aT HB);(case az=>exact aU.out);rintro e w10 ⟨rfl,hb⟩;replace ah:=zR ah hb;replace aa:=zK aa hb;replace HB:=zB HB hb;(try clear hb)))
     go_meet
     case rel=>exact⟨_,(a5),zt,H',⟨by have:=ar.out;first|omega|exact Nat.le_refl _⟩,⟨zR_ ah⟩,⟨zK_ aa⟩,⟨zB_ HB⟩⟩
    rw [if_neg c7] at H;have aq:=dF c7;clear c7
    (first|rw [aq]|(simp only [i64_w,i32_w];rw [aq])|skip)
    have H':=A0_ H;clear H;have bf:=zc0 aa;have bg:=zc1 aa;have bh:=kF aa.out 0;have bi:=kF aa.out 1
    go_wp2
    go_meet
    case rel=>exact⟨_,(false),zt,H',⟨by have:=ar.out;first|omega|exact Nat.le_refl _⟩,⟨zR_ ah⟩,⟨zK_ aa⟩,⟨zB_ HB⟩⟩
   case rest =>
    clear a4;(try clear c1);obtain⟨kq,ap,rfl,HA,aW,ah,aa,HB⟩:=hcut
    cases kq with
    | zero=>exact absurd HA.out (by simp [sr_.j1])
    | succ ak =>
     have H:=HA.out;clear HA;simp only [sr_.j1] at H
     by_cases aX:ap=true
     ·subst aX
      have H1:((s18_.f ak l1 af).bind fun aD=>(if aD=true then (sr_.l0 ak l1 ag (wrap64 (af+1)) ac ab) else (if ag.length<17592186044416 then (sr_.l0 ak l1 (ag ++ [af]) (wrap64 (af+1)) ac ab) else (none))))=some (r1,r2):=by rw [if_pos rfl] at H;exact H
      clear H;have H:=H1;clear H1;obtain⟨aD,bd,H⟩:=zbind H
      by_cases aY:aD=true
      ·subst aY
       have H1:(sr_.l0 ak l1 ag (wrap64 (af+1)) ac ab)=some (r1,r2):=by rw [if_pos rfl] at H;exact H
       clear H;have H:=H1;clear H1;have H':=A0_ H;clear H
       go_wp2_with (first|((with_reducible refine gC (f:=118) rfl ?_);refine zJ (some 24) Tryz.func118 #[.slice A1 l1.length c1,.int .i64 af] ?_;(with_reducible refine(s18_.calls ak _ _ l1 af true _ ?ai ?aj bd.out).mono ?_);(case ai=>exact zC aT HB);(case aj=>exact aU.out);rintro e w' ⟨rfl,⟨nd,rfl⟩⟩;refine⟨_,rfl,?_⟩))
       go_roundg ak
       case measure=>have:=ar.out;have:=aW.out;omega
       case rel=>exact⟨(ag),(wrap64 (af+1)),zt,H',⟨by have:=ar.out;have:=aW.out;omega⟩,⟨zR_ ah⟩,⟨zK_ aa⟩,⟨zB_ HB⟩⟩
      replace aY:=Bool.eq_false_iff.mpr aY;subst aY
      have H1:(if ag.length<17592186044416 then (sr_.l0 ak l1 (ag ++ [af]) (wrap64 (af+1)) ac ab) else (none))=some (r1,r2):=by rw [if_neg (show ¬ (false=true) by decide)] at H;exact H
      clear H;have H:=H1;clear H1
      have be:=zpc H;replace H:=zph H
      have a8:=A0_ be;clear be
      obtain⟨a6,aA⟩ : ∃ y_:List Int,y_=(ag ++ [af]):=⟨_,rfl⟩
      replace H:(sr_.l0 ak l1 a6 (wrap64 (af+1)) ac ab)=some (r1,r2):=zH aA H
      have a9:=A0_ aA;clear aA;have H':=A0_ H;clear H
      go_wp2_with (first|((with_reducible refine gC (f:=118) rfl ?_);refine zJ (some 24) Tryz.func118 #[.slice A1 l1.length c1,.int .i64 af] ?_;(with_reducible refine(s18_.calls ak _ _ l1 af false _ ?ai ?aj bd.out).mono ?_);(case ai=>exact zC aT HB);(case aj=>exact aU.out);rintro e w' ⟨rfl,⟨nd,rfl⟩⟩;refine⟨_,rfl,?_⟩)|((with_reducible refine gB (b := .append) (xs := #[.tmp 26,.tmp 28]) rfl ?_);at_builtin;refine Kd.R_append (Kd.int .i64) (w0:=w) w.heap.size rfl (.tmp 26) (.tmp 28) 23 3 (.int .i64 0) 8 rfl Tryz.underlying23 info3 rfl (by decide) (by omega) u6 ag af [.int .i64 af] (fun _=>True) (fun _=>False) rfl rfl ?aP (fun _ hk=>hk.elim) ?aF ?aO ?aB ?aS ?aL ?_;(case aP=>exact rfl);(case aB=>exact(zB_ HB));(case aF=>exact(fun _ _=>trivial));(case aO=>exact(zR_ ah));(case aS=>exact(bZ (zB_ HB)));(case aL=>have:=a8.out;omega);intro bB w16 ho hb hg hat;rw [← a9.out] at ho;replace aa:=A0_ (blk_grown (g:=av) (o := .cells #[.slice al ac.length am,.slice an ab.length ao] 25 (0,0)) (zK_ aa) hg (Kd.R_ne ah.out aa.out (by decide)));replace HB:=A0_ (hb);have ba:=A0_ (ho);clear ah ho hb hg hat))
      go_roundg ak
      case measure=>have:=ar.out;have:=aW.out;omega
      case rel=>exact⟨(a6),(wrap64 (af+1)),zt,H',⟨by have:=ar.out;have:=aW.out;omega⟩,⟨zR_ ba⟩,⟨zK_ aa⟩,⟨zB_ HB⟩⟩
     replace aX:=Bool.eq_false_iff.mpr aX;subst aX
     have H1:((ss_.f ak ac ab l1).bind fun aE=>(some (ag,aE)))=some (r1,r2):=by rw [if_neg (show ¬ (false=true) by decide)] at H;exact H
     clear H;have H:=H1;clear H1;obtain⟨aE,br,H⟩:=zbind H;simp only [Option.some.injEq,Prod.mk.injEq] at H;obtain⟨rfl,rfl⟩:=H;have bj:=zc0 aa;have bk:=zc1 aa;have bl:=kF aa.out 0;have bm:=kF aa.out 1
     go_wp2_with (first|((with_reducible refine gC (f:=121) rfl ?_);refine zJ (some 33) Tryz.func121 #[.agg #[.slice al ac.length am,.slice an ab.length ao],.slice A1 l1.length c1] ?_;(with_reducible refine(ss_.calls ak _ _ ac _ _ ab _ _ l1 aE _ ?ai ?aj ?aw ?ax ?ay ?az br.out).mono ?_);(case ai=>exact zC aK HB);(case aj=>exact aM.out);(case aw=>exact zC aN HB);(case ax=>exact aQ.out);(case ay=>exact zC aT HB);(case az=>exact aU.out);rintro e w19 ⟨rfl,hb⟩;refine⟨_,rfl,?_⟩;replace ah:=zR ah hb;replace aa:=zK aa hb;replace HB:=zB HB hb;(try clear hb)))
     go_ret2
     exact⟨_,by first|rfl|(simp [*] <;> rfl),zR_ ah,zB_ HB⟩
def sv_.j0:Nat→Int→Bool→List Int→List Int→Option (Int)
  | 0,_,_,_,_=>none
  | k+1,x1,ai,ab,aa=>if ai=true then (some (-1)) else ((s16_.f k ab aa x1).bind fun ac=>((s1c_.f k ab).bind fun af=>(if 0≤ac then (if ac<(af.length:Int) then (if ac<(aa.length:Int) then (if 0≤(rd aa ac) then (if (rd aa ac)<(af.length:Int) then (if (rd af ac)=(rd af (rd aa ac)) then (some 2) else ((sr_.f k ab aa (([x1]:List Int))).bind fun ag=>((s1a_.f k ab aa ag.1).bind fun ah=>(some (wrap64 (ah - 1)))))) else (none)) else (none)) else (none)) else (none)) else (none))))
def sv_.f (k:Nat) (ab:List Int) (aa:List Int) (a1:Int):Option (Int):=(sw_.f k ab aa).bind fun ac=>(if ac=true then ((s13_.f a1 0 (wrap64 ((wrap64 ((aa.length:Int) / 2)) - 1))).bind fun af=>(sv_.j0 k a1 (!af) ab aa)) else (sv_.j0 k a1 true ab aa))
theorem sv_.calls (k:Nat) (aW:Option Addr) (aX:Nat) (al:List Int) (aY:Option Addr) (aZ:Nat) (ac:List Int) (a1:Int) (r:Int) (w:World) (bQ:Kd.C (Kd.int .i64) w aW al.length al) (bR:al.length≤aX) (bU:Kd.C (Kd.int .i64) w aY ac.length ac) (bV:ac.length≤aZ) (h:sv_.f k al ac a1=some r) :
    Calls Tryz.prog 51 #[.agg #[.slice aW al.length aX,.slice aY ac.length aZ],.int .i64 a1] w fun e w'=>e = .returned (.int .i64 r)∧Below w.heap.size w w':=by
 have cU:=Tryz.underlying25;have an:=A0_ bQ;have ao:=A0_ bR;clear bQ bR;have ap:=A0_ bU;have aA:=A0_ bV;clear bU bV
 have HB:=A0_ (Below.refl w.heap.size w)
 have H:((sw_.f k al ac).bind fun bO=>(if bO=true then ((s13_.f a1 0 (wrap64 ((wrap64 ((ac.length:Int) / 2)) - 1))).bind fun a4=>(sv_.j0 k a1 (!a4) al ac)) else (sv_.j0 k a1 true al ac)))=some r:=h
 clear h;have b5:=A0_ H;clear H
 go_enter Tryz.func51,Tryz.ntmps51
 go_upto_region 1 with(first|((with_reducible refine gD (N:=2) rfl ?_);refine zX (N:=2) (cs := #[.slice aW al.length aX,.slice aY ac.length aZ]) (t:=25) ?_;intro bK hg w4 hbox hb;have aa:=A0_ (hbox);have bW:=zG hg HB;have bX:=zG hg HB;replace HB:=zB HB hb;clear hb hbox hg))
 repeat(go_quiet (first|((with_reducible refine gD (N:=2) rfl ?_);refine zX (N:=2) (cs := #[.slice aW al.length aX,.slice aY ac.length aZ]) (t:=25) ?_;intro bK hg w4 hbox hb;have aa:=A0_ (hbox);have bW:=zG hg HB;have bX:=zG hg HB;replace HB:=zB HB hb;clear hb hbox hg));go_upto_region 1 with(first|((with_reducible refine gD (N:=2) rfl ?_);refine zX (N:=2) (cs := #[.slice aW al.length aX,.slice aY ac.length aZ]) (t:=25) ?_;intro bK hg w4 hbox hb;have n0_:=zB HB hb;have n1_:=A0_ (hbox);have n2_:=zG hg HB;have n3_:=zG hg HB;clear HB;have HB:=n0_;have aa:=n1_;have bW:=n2_;have bX:=n3_;clear n0_ n1_ n2_ n3_ hb hbox hg)))
 (try simp only [Act.put,List.setIfInBounds_toArray,List.set_cons_zero,List.set_cons_succ])
 go_cut [21] (fun v21 wc => ∃ (kq:Nat) (a6:Bool),v21 = .bool a6∧Aside0 (sv_.j0 kq a1 a6 al ac=some r)∧Aside0 (kq≤k)∧Aside0 (wc.heap[bK]? = some (.cells #[(.slice aW al.length aX),(.slice aY ac.length aZ)] 25 (0,0)))∧Aside0 (Below w.heap.size w wc))
 case first =>
  have H:=b5.out;clear b5;obtain⟨bO,A5,H⟩:=zbind H
  by_cases c6:bO=true
  ·subst c6
   rw [if_pos rfl] at H;obtain⟨a4,A7,H⟩:=zbind H;have H':=A0_ H;clear H;have cK:=zc0 aa;have cL:=zc1 aa;have cM:=kF aa.out 0;have cO:=kF aa.out 1
   go_wp2_with (first|(go_at_call 27;(with_reducible refine(sw_.calls k _ _ al _ _ ac true _ ?ag ?ah ?ai ?aj A5.out).mono ?_);(case ag=>exact zC an HB);(case ah=>exact ao.out);(case ai=>exact zC ap HB);(case aj=>exact aA.out);rintro e w9 ⟨rfl,hb⟩;replace aa:=zK aa hb;replace HB:=zB HB hb;(try clear hb);have be:=zc0 aa;have bf:=zc1 aa;have bg:=kF aa.out 0;have bh:=kF aa.out 1)|(go_at_call 42;(with_reducible refine(s13_.calls a1 0 (wrap64 ((wrap64 ((ac.length:Int) / 2)) - 1)) a4 _ A7.out).mono ?_);rintro e w' ⟨rfl,⟨nd,rfl⟩⟩;(try first|exact⟨rfl,_,World.drewN_drewN _ _ _⟩|exact⟨rfl,_,Eq.trans (World.drewN_drewN _ _ _) (congrArg (World.drewN _) (Nat.add_assoc _ _ _))⟩)))
   repeat(go_quiet (first|(go_at_call 27;(with_reducible refine(sw_.calls k _ _ al _ _ ac true _ ?ag ?ah ?ai ?aj A5.out).mono ?_);(case ag=>exact zC an HB);(case ah=>exact ao.out);(case ai=>exact zC ap HB);(case aj=>exact aA.out);rintro e w9 ⟨rfl,hb⟩;replace aa:=zK aa hb;replace HB:=zB HB hb;(try clear hb);have be:=zc0 aa;have bf:=zc1 aa;have bg:=kF aa.out 0;have bh:=kF aa.out 1)|(go_at_call 42;(with_reducible refine(s13_.calls a1 0 (wrap64 ((wrap64 ((ac.length:Int) / 2)) - 1)) a4 _ A7.out).mono ?_);rintro e w' ⟨rfl,⟨nd,rfl⟩⟩;(try first|exact⟨rfl,_,World.drewN_drewN _ _ _⟩|exact⟨rfl,_,Eq.trans (World.drewN_drewN _ _ _) (congrArg (World.drewN _) (Nat.add_assoc _ _ _))⟩)));try go_wp2_with (first|(go_at_call 27;(with_reducible refine(sw_.calls k _ _ al _ _ ac true _ ?ag ?ah ?ai ?aj A5.out).mono ?_);(case ag=>exact zC an HB);(case ah=>exact ao.out);(case ai=>exact zC ap HB);(case aj=>exact aA.out);rintro e w9 ⟨rfl,hb⟩;have n0_:=zK aa hb;have n1_:=zB HB hb;clear aa HB;have aa:=n0_;have HB:=n1_;clear n0_ n1_;(try clear hb);have be:=zc0 aa;have bf:=zc1 aa;have bg:=kF aa.out 0;have bh:=kF aa.out 1)|(go_at_call 42;(with_reducible refine(s13_.calls a1 0 (wrap64 ((wrap64 ((ac.length:Int) / 2)) - 1)) a4 _ A7.out).mono ?_);rintro e w' ⟨rfl,⟨nd,rfl⟩⟩;(try first|exact⟨rfl,_,World.drewN_drewN _ _ _⟩|exact⟨rfl,_,Eq.trans (World.drewN_drewN _ _ _) (congrArg (World.drewN _) (Nat.add_assoc _ _ _))⟩))))
   go_meet
   case rel=>exact⟨_,(!a4),zt,H',zo,⟨zK_ aa⟩,⟨zB_ HB⟩⟩
  replace c6:=Bool.eq_false_iff.mpr c6;subst c6
  rw [if_neg (show ¬ (false=true) by decide)] at H
  have H':=A0_ H;clear H;have cv:=zc0 aa;have cw:=zc1 aa;have cx:=kF aa.out 0;have cy:=kF aa.out 1
  go_wp2_with (first|(go_at_call 27;(with_reducible refine(sw_.calls k _ _ al _ _ ac false _ ?ag ?ah ?ai ?aj A5.out).mono ?_);(case ag=>exact zC an HB);(case ah=>exact ao.out);(case ai=>exact zC ap HB);(case aj=>exact aA.out);rintro e w12 ⟨rfl,hb⟩;replace aa:=zK aa hb;replace HB:=zB HB hb;(try clear hb)))
  repeat(go_quiet (first|(go_at_call 27;(with_reducible refine(sw_.calls k _ _ al _ _ ac false _ ?ag ?ah ?ai ?aj A5.out).mono ?_);(case ag=>exact zC an HB);(case ah=>exact ao.out);(case ai=>exact zC ap HB);(case aj=>exact aA.out);rintro e w12 ⟨rfl,hb⟩;replace aa:=zK aa hb;replace HB:=zB HB hb;(try clear hb)));try go_wp2_with (first|(go_at_call 27;(with_reducible refine(sw_.calls k _ _ al _ _ ac false _ ?ag ?ah ?ai ?aj A5.out).mono ?_);(case ag=>exact zC an HB);(case ah=>exact ao.out);(case ai=>exact zC ap HB);(case aj=>exact aA.out);rintro e w12 ⟨rfl,hb⟩;have n0_:=zK aa hb;have n1_:=zB HB hb;clear aa HB;have aa:=n0_;have HB:=n1_;clear n0_ n1_;(try clear hb);)))
  go_meet
  case rel=>exact⟨_,(true),zt,H',zo,⟨zK_ aa⟩,⟨zB_ HB⟩⟩
 case rest =>
  clear b5;obtain⟨kq,a6,rfl,HA,cV,aa,HB⟩:=hcut
  cases kq with
  | zero=>exact absurd HA.out (by simp [sv_.j0])
  | succ aE =>
   have H:=HA.out;clear HA;simp only [sv_.j0] at H
   by_cases bY:a6=true
   ·subst bY
    rw [if_pos rfl] at H;obtain rfl:=sI H
    go_wp2
    repeat(go_quiet (fail);try go_wp2)
    go_ret
    exact⟨by first|rfl|(simp [*] <;> rfl),zB_ HB⟩
   replace bY:=Bool.eq_false_iff.mpr bY;subst bY
   rw [if_neg (show ¬ (false=true) by decide)] at H
   obtain⟨ab,bi,H⟩:=zbind H;obtain⟨aq,bj,H⟩:=zbind H
   have cp:=zpc H;replace H:=zph H
   have cP:=dT cp;clear cp
   have cq:=zpc H;replace H:=zph H
   have cQ:=dT cq;clear cq
   have cr:=zpc H;replace H:=zph H
   have cR:=dT cr;clear cr
   have ct:=zpc H;replace H:=zph H
   have cS:=dT ct;clear ct
   have cu:=zpc H;replace H:=zph H
   have cT:=dT cu;clear cu
   by_cases a7:(rd aq ab)=(rd aq (rd ac ab))
   ·rw [if_pos a7] at H
    have cl:((rd aq ab) == (rd aq (rd ac ab)))=true:=beq_iff_eq.mpr a7
    have cm:((rd aq ab) != (rd aq (rd ac ab)))=false:=bne_eq_false_iff_eq.mpr a7
    clear a7;obtain rfl:=sI H;have cz:=zc0 aa;have cC:=zc1 aa;have cE:=kF aa.out 0;have cF:=kF aa.out 1
    go_wp2_with (first|(go_at_call 52;(with_reducible refine(s16_.calls aE _ _ al _ _ ac a1 ab _ ?ag ?ah ?ai ?aj bi.out).mono ?_);(case ag=>exact zC an HB);(case ah=>exact ao.out);(case ai=>exact zC ap HB);(case aj=>exact aA.out);rintro e w23 ⟨rfl,hb⟩;replace aa:=zK aa hb;replace HB:=zB HB hb;(try clear hb);have bk:=zc0 aa;have bl:=zc1 aa;have bm:=kF aa.out 0;have bn:=kF aa.out 1)|(go_at_call 92;(with_reducible refine(s1c_.calls aE _ _ al aq _ ?ag ?ah bj.out).mono ?_);(case ag=>exact zC an HB);(case ah=>exact ao.out);rintro e w25 ⟨a8,rfl,ar,hb⟩;have af:=A0_ (rL ar (bZ (zB_ HB)));replace aa:=zK aa hb;replace HB:=zB HB hb;(try clear hb);(try clear ar);obtain⟨b6,b7,a9⟩:=rS af.out;subst a9;have au:0≤(ab:Int):=zd;have av:ab<(aq.length:Int):=zd;obtain⟨aG,aK,aQ⟩:=tI (rR af.out).2.2 ab au av;cases aK;replace au:=eq_true au;replace av:=eq_true av;have bo:=zc0 aa;have bp:=zc1 aa;have bq:=kF aa.out 0;have br:=kF aa.out 1;have aw:0≤(ab:Int):=zd;have ax:ab<(ac.length:Int):=zd;obtain⟨aV,aM,ak⟩:=tI ap.out ab aw ax;cases aM;try replace ak:=(HB.out.cell (wL w _ ak)).trans ak;replace aw:=eq_true aw;replace ax:=eq_true ax;have ay:0≤((rd ac ab):Int):=zd;have az:(rd ac ab)<(aq.length:Int):=zd;obtain⟨aH,aN,aT⟩:=tI (rR af.out).2.2 (rd ac ab) ay az;obtain rfl:aG=aH:=(by injection aN);replace ay:=eq_true ay;replace az:=eq_true az))
    repeat(go_quiet (first|(go_at_call 52;(with_reducible refine(s16_.calls aE _ _ al _ _ ac a1 ab _ ?ag ?ah ?ai ?aj bi.out).mono ?_);(case ag=>exact zC an HB);(case ah=>exact ao.out);(case ai=>exact zC ap HB);(case aj=>exact aA.out);rintro e w23 ⟨rfl,hb⟩;replace aa:=zK aa hb;replace HB:=zB HB hb;(try clear hb);have bk:=zc0 aa;have bl:=zc1 aa;have bm:=kF aa.out 0;have bn:=kF aa.out 1)|(go_at_call 92;(with_reducible refine(s1c_.calls aE _ _ al aq _ ?ag ?ah bj.out).mono ?_);(case ag=>exact zC an HB);(case ah=>exact ao.out);rintro e w25 ⟨a8,rfl,ar,hb⟩;have af:=A0_ (rL ar (bZ (zB_ HB)));replace aa:=zK aa hb;replace HB:=zB HB hb;(try clear hb);(try clear ar);obtain⟨b6,b7,a9⟩:=rS af.out;subst a9;have au:0≤(ab:Int):=zd;have av:ab<(aq.length:Int):=zd;obtain⟨aG,aK,aQ⟩:=tI (rR af.out).2.2 ab au av;cases aK;replace au:=eq_true au;replace av:=eq_true av;have bo:=zc0 aa;have bp:=zc1 aa;have bq:=kF aa.out 0;have br:=kF aa.out 1;have aw:0≤(ab:Int):=zd;have ax:ab<(ac.length:Int):=zd;obtain⟨aV,aM,ak⟩:=tI ap.out ab aw ax;cases aM;try replace ak:=(HB.out.cell (wL w _ ak)).trans ak;replace aw:=eq_true aw;replace ax:=eq_true ax;have ay:0≤((rd ac ab):Int):=zd;have az:(rd ac ab)<(aq.length:Int):=zd;obtain⟨aH,aN,aT⟩:=tI (rR af.out).2.2 (rd ac ab) ay az;obtain rfl:aG=aH:=(by injection aN);replace ay:=eq_true ay;replace az:=eq_true az));try go_wp2_with (first|(go_at_call 52;(with_reducible refine(s16_.calls aE _ _ al _ _ ac a1 ab _ ?ag ?ah ?ai ?aj bi.out).mono ?_);(case ag=>exact zC an HB);(case ah=>exact ao.out);(case ai=>exact zC ap HB);(case aj=>exact aA.out);rintro e w23 ⟨rfl,hb⟩;have n0_:=zK aa hb;have n1_:=zB HB hb;clear aa HB;have aa:=n0_;have HB:=n1_;clear n0_ n1_;(try clear hb);have bk:=zc0 aa;have bl:=zc1 aa;have bm:=kF aa.out 0;have bn:=kF aa.out 1)|(go_at_call 92;(with_reducible refine(s1c_.calls aE _ _ al aq _ ?ag ?ah bj.out).mono ?_);(case ag=>exact zC an HB);(case ah=>exact ao.out);rintro e w25 ⟨a8,rfl,ar,hb⟩;have n0_:=A0_ (rL ar (bZ (zB_ HB)));have n1_:=zK aa hb;have n2_:=zB HB hb;clear aa HB;have af:=n0_;have aa:=n1_;have HB:=n2_;clear n0_ n1_ n2_;(try clear hb);(try clear ar);obtain⟨b6,b7,a9⟩:=rS af.out;subst a9;have au:0≤(ab:Int):=zd;have av:ab<(aq.length:Int):=zd;obtain⟨aG,aK,aQ⟩:=tI (rR af.out).2.2 ab au av;cases aK;replace au:=eq_true au;replace av:=eq_true av;have bo:=zc0 aa;have bp:=zc1 aa;have bq:=kF aa.out 0;have br:=kF aa.out 1;have aw:0≤(ab:Int):=zd;have ax:ab<(ac.length:Int):=zd;obtain⟨aV,aM,ak⟩:=tI ap.out ab aw ax;cases aM;try replace ak:=(HB.out.cell (wL w _ ak)).trans ak;replace aw:=eq_true aw;replace ax:=eq_true ax;have ay:0≤((rd ac ab):Int):=zd;have az:(rd ac ab)<(aq.length:Int):=zd;obtain⟨aH,aN,aT⟩:=tI (rR af.out).2.2 (rd ac ab) ay az;obtain rfl:aG=aH:=(by injection aN);replace ay:=eq_true ay;replace az:=eq_true az)))
    go_ret
    exact⟨by first|rfl|(simp [*] <;> rfl),zB_ HB⟩
   rw [if_neg a7] at H
   have cl:((rd aq ab) == (rd aq (rd ac ab)))=false:=beq_eq_false_iff_ne.mpr a7
   have cm:((rd aq ab) != (rd aq (rd ac ab)))=true:=bne_iff_ne.mpr a7
   obtain⟨bL,bM⟩ : ∃ y_:List Int,y_=(([a1]:List Int)):=⟨_,rfl⟩
   replace H:((sr_.f aE al ac bL).bind fun cn=>((s1a_.f aE al ac cn.1).bind fun ba=>(some (wrap64 (ba - 1)))))=some r:=zH bM H
   have aU:=A0_ bM;clear bM;obtain⟨⟨a5,bP⟩,b8,H⟩:=zbind H;dsimp only at H;obtain⟨ba,b9,H⟩:=zbind H;obtain rfl:=sI H;have cG:=zc0 aa;have cH:=zc1 aa;have cI:=kF aa.out 0;have cJ:=kF aa.out 1
   go_wp2_with (first|(go_at_call 52;(with_reducible refine(s16_.calls aE _ _ al _ _ ac a1 ab _ ?ag ?ah ?ai ?aj bi.out).mono ?_);(case ag=>exact zC an HB);(case ah=>exact ao.out);(case ai=>exact zC ap HB);(case aj=>exact aA.out);rintro e w31 ⟨rfl,hb⟩;replace aa:=zK aa hb;replace HB:=zB HB hb;(try clear hb);have bu:=zc0 aa;have bv:=zc1 aa;have bx:=kF aa.out 0;have bz:=kF aa.out 1)|(go_at_call 92;(with_reducible refine(s1c_.calls aE _ _ al aq _ ?ag ?ah bj.out).mono ?_);(case ag=>exact zC an HB);(case ah=>exact ao.out);rintro e w33 ⟨a8,rfl,ar,hb⟩;have af:=A0_ (rL ar (bZ (zB_ HB)));replace aa:=zK aa hb;replace HB:=zB HB hb;(try clear hb);(try clear ar);obtain⟨cd,ce,bb⟩:=rS af.out;subst bb;have au:0≤(ab:Int):=zd;have av:ab<(aq.length:Int):=zd;obtain⟨aG,aK,aQ⟩:=tI (rR af.out).2.2 ab au av;cases aK;replace au:=eq_true au;replace av:=eq_true av;have bB:=zc0 aa;have bC:=zc1 aa;have bE:=kF aa.out 0;have bF:=kF aa.out 1;have aw:0≤(ab:Int):=zd;have ax:ab<(ac.length:Int):=zd;obtain⟨aV,aM,ak⟩:=tI ap.out ab aw ax;cases aM;try replace ak:=(HB.out.cell (wL w _ ak)).trans ak;replace aw:=eq_true aw;replace ax:=eq_true ax;have ay:0≤((rd ac ab):Int):=zd;have az:(rd ac ab)<(aq.length:Int):=zd;obtain⟨aH,aN,aT⟩:=tI (rR af.out).2.2 (rd ac ab) ay az;obtain rfl:aG=aH:=(by injection aN);replace ay:=eq_true ay;replace az:=eq_true az)|((with_reducible refine gD (N:=44) rfl ?_);refine Kd.R_lit (Kd.int .i64) _ 3 ?hg (N:=44) ?hd (xs:=([a1]:List Int)) (inner := [.int .i64 a1]) (ok:=fun _=>True) (okp:=fun _=>True) ?hr ?hp (fun _ hk=>hk) trivial (Below.refl _ _) (Nat.le_refl _) (by simp) ?_;(case hd=>rfl);(case hg=>rfl);(case hr=>first|(go_simp;done)|(go_simp;rfl));(case hp=>exact(Reps.one (show Kd.M (Kd.int .i64) _ _ _ a1 [.int .i64 a1] from rfl) (Reps.none _ _)));intro cf w36 aD hb hg_ hnew_;clear hg_ hnew_;(first|rw [← aU.out] at aD|(simp only [Int.reduceToNat] at aD;rw [← aU.out] at aD));have am:=A0_ (rL (Kd.R_new' aD (rX (zR_ af))) (bZ (zB_ HB)));replace af:=A0_ (Kd.R_elder' (zR_ af) (Kd.R_base aD) hb);replace aa:=zK aa hb;replace HB:=zB HB hb;clear hb aD;obtain⟨cg,ch,bc⟩:=rS am.out;subst bc)|(go_at_call 93;(with_reducible refine(sr_.calls aE _ _ al _ _ ac _ _ bL a5 bP _ ?ag ?ah ?ai ?aj ?aI ?aJ b8.out).mono ?_);(case ag=>exact zC an HB);(case ah=>exact ao.out);(case ai=>exact zC ap HB);(case aj=>exact aA.out);(case aI=>exact zD am);(case aJ=>exact(rR am.out).2.1);rintro e w39 ⟨ci,rfl,ar,hb⟩;have aC:=A0_ (rL (Kd.R_new' (Kd.R_new' ar (rX (zR_ af))) (rX (zR_ am))) (bZ (zB_ HB)));replace af:=A0_ (Kd.R_elder' (zR_ af) (Kd.R_base ar) hb);replace am:=A0_ (Kd.R_elder' (zR_ am) (Kd.R_base ar) hb);replace aa:=zK aa hb;replace HB:=zB HB hb;(try clear hb);(try clear ar);have bG:=zc0 aa;have bH:=zc1 aa;have bI:=kF aa.out 0;have bJ:=kF aa.out 1;obtain⟨cj,ck,bd⟩:=rS aC.out;subst bd)|(go_at_call 86;(with_reducible refine(s1a_.calls aE _ _ al _ _ ac _ _ a5 ba _ ?ag ?ah ?ai ?aj ?aI ?aJ b9.out).mono ?_);(case ag=>exact zC an HB);(case ah=>exact ao.out);(case ai=>exact zC ap HB);(case aj=>exact aA.out);(case aI=>exact zD aC);(case aJ=>exact(rR aC.out).2.1);rintro e w42 ⟨rfl,hb⟩;replace af:=zR af hb;replace am:=zR am hb;replace aC:=zR aC hb;replace aa:=zK aa hb;replace HB:=zB HB hb;(try clear hb)))
   repeat(go_quiet (first|(go_at_call 52;(with_reducible refine(s16_.calls aE _ _ al _ _ ac a1 ab _ ?ag ?ah ?ai ?aj bi.out).mono ?_);(case ag=>exact zC an HB);(case ah=>exact ao.out);(case ai=>exact zC ap HB);(case aj=>exact aA.out);rintro e w31 ⟨rfl,hb⟩;replace aa:=zK aa hb;replace HB:=zB HB hb;(try clear hb);have bu:=zc0 aa;have bv:=zc1 aa;have bx:=kF aa.out 0;have bz:=kF aa.out 1)|(go_at_call 92;(with_reducible refine(s1c_.calls aE _ _ al aq _ ?ag ?ah bj.out).mono ?_);(case ag=>exact zC an HB);(case ah=>exact ao.out);rintro e w33 ⟨a8,rfl,ar,hb⟩;have af:=A0_ (rL ar (bZ (zB_ HB)));replace aa:=zK aa hb;replace HB:=zB HB hb;(try clear hb);(try clear ar);obtain⟨cd,ce,bb⟩:=rS af.out;subst bb;have au:0≤(ab:Int):=zd;have av:ab<(aq.length:Int):=zd;obtain⟨aG,aK,aQ⟩:=tI (rR af.out).2.2 ab au av;cases aK;replace au:=eq_true au;replace av:=eq_true av;have bB:=zc0 aa;have bC:=zc1 aa;have bE:=kF aa.out 0;have bF:=kF aa.out 1;have aw:0≤(ab:Int):=zd;have ax:ab<(ac.length:Int):=zd;obtain⟨aV,aM,ak⟩:=tI ap.out ab aw ax;cases aM;try replace ak:=(HB.out.cell (wL w _ ak)).trans ak;replace aw:=eq_true aw;replace ax:=eq_true ax;have ay:0≤((rd ac ab):Int):=zd;have az:(rd ac ab)<(aq.length:Int):=zd;obtain⟨aH,aN,aT⟩:=tI (rR af.out).2.2 (rd ac ab) ay az;obtain rfl:aG=aH:=(by injection aN);replace ay:=eq_true ay;replace az:=eq_true az)|((with_reducible refine gD (N:=44) rfl ?_);refine Kd.R_lit (Kd.int .i64) _ 3 ?hg (N:=44) ?hd (xs:=([a1]:List Int)) (inner := [.int .i64 a1]) (ok:=fun _=>True) (okp:=fun _=>True) ?hr ?hp (fun _ hk=>hk) trivial (Below.refl _ _) (Nat.le_refl _) (by simp) ?_;(case hd=>rfl);(case hg=>rfl);(case hr=>first|(go_simp;done)|(go_simp;rfl));(case hp=>exact(Reps.one (show Kd.M (Kd.int .i64) _ _ _ a1 [.int .i64 a1] from rfl) (Reps.none _ _)));intro cf w36 aD hb hg_ hnew_;clear hg_ hnew_;(first|rw [← aU.out] at aD|(simp only [Int.reduceToNat] at aD;rw [← aU.out] at aD));have am:=A0_ (rL (Kd.R_new' aD (rX (zR_ af))) (bZ (zB_ HB)));replace af:=A0_ (Kd.R_elder' (zR_ af) (Kd.R_base aD) hb);replace aa:=zK aa hb;replace HB:=zB HB hb;clear hb aD;obtain⟨cg,ch,bc⟩:=rS am.out;subst bc)|(go_at_call 93;(with_reducible refine(sr_.calls aE _ _ al _ _ ac _ _ bL a5 bP _ ?ag ?ah ?ai ?aj ?aI ?aJ b8.out).mono ?_);(case ag=>exact zC an HB);(case ah=>exact ao.out);(case ai=>exact zC ap HB);(case aj=>exact aA.out);(case aI=>exact zD am);(case aJ=>exact(rR am.out).2.1);rintro e w39 ⟨ci,rfl,ar,hb⟩;have aC:=A0_ (rL (Kd.R_new' (Kd.R_new' ar (rX (zR_ af))) (rX (zR_ am))) (bZ (zB_ HB)));replace af:=A0_ (Kd.R_elder' (zR_ af) (Kd.R_base ar) hb);replace am:=A0_ (Kd.R_elder' (zR_ am) (Kd.R_base ar) hb);replace aa:=zK aa hb;replace HB:=zB HB hb;(try clear hb);(try clear ar);have bG:=zc0 aa;have bH:=zc1 aa;have bI:=kF aa.out 0;have bJ:=kF aa.out 1;obtain⟨cj,ck,bd⟩:=rS aC.out;subst bd)|(go_at_call 86;(with_reducible refine(s1a_.calls aE _ _ al _ _ ac _ _ a5 ba _ ?ag ?ah ?ai ?aj ?aI ?aJ b9.out).mono ?_);(case ag=>exact zC an HB);(case ah=>exact ao.out);(case ai=>exact zC ap HB);(case aj=>exact aA.out);(case aI=>exact zD aC);(case aJ=>exact(rR aC.out).2.1);rintro e w42 ⟨rfl,hb⟩;replace af:=zR af hb;replace am:=zR am hb;replace aC:=zR aC hb;replace aa:=zK aa hb;replace HB:=zB HB hb;(try clear hb)));try go_wp2_with (first|(go_at_call 52;(with_reducible refine(s16_.calls aE _ _ al _ _ ac a1 ab _ ?ag ?ah ?ai ?aj bi.out).mono ?_);(case ag=>exact zC an HB);(case ah=>exact ao.out);(case ai=>exact zC ap HB);(case aj=>exact aA.out);rintro e w31 ⟨rfl,hb⟩;have n0_:=zK aa hb;have n1_:=zB HB hb;clear aa HB;have aa:=n0_;have HB:=n1_;clear n0_ n1_;(try clear hb);(try clear hk);have bu:=zc0 aa;have bv:=zc1 aa;have bx:=kF aa.out 0;have bz:=kF aa.out 1)|(go_at_call 92;(with_reducible refine(s1c_.calls aE _ _ al aq _ ?ag ?ah bj.out).mono ?_);(case ag=>exact zC an HB);(case ah=>exact ao.out);rintro e w33 ⟨a8,rfl,ar,hb⟩;have n0_:=A0_ (rL ar (bZ (zB_ HB)));have n1_:=zK aa hb;have n2_:=zB HB hb;clear aa HB;have af:=n0_;have aa:=n1_;have HB:=n2_;clear n0_ n1_ n2_;(try clear hb);(try clear hk);(try clear ar);obtain⟨cd,ce,bb⟩:=rS af.out;subst bb;have au:0≤(ab:Int):=zd;have av:ab<(aq.length:Int):=zd;obtain⟨aG,aK,aQ⟩:=tI (rR af.out).2.2 ab au av;cases aK;replace au:=eq_true au;replace av:=eq_true av;have bB:=zc0 aa;have bC:=zc1 aa;have bE:=kF aa.out 0;have bF:=kF aa.out 1;have aw:0≤(ab:Int):=zd;have ax:ab<(ac.length:Int):=zd;obtain⟨aV,aM,ak⟩:=tI ap.out ab aw ax;cases aM;try replace ak:=(HB.out.cell (wL w _ ak)).trans ak;replace aw:=eq_true aw;replace ax:=eq_true ax;have ay:0≤((rd ac ab):Int):=zd;have az:(rd ac ab)<(aq.length:Int):=zd;obtain⟨aH,aN,aT⟩:=tI (rR af.out).2.2 (rd ac ab) ay az;obtain rfl:aG=aH:=(by injection aN);replace ay:=eq_true ay;replace az:=eq_true az)|((with_reducible refine gD (N:=44) rfl ?_);refine Kd.R_lit (Kd.int .i64) _ 3 ?hg (N:=44) ?hd (xs:=([a1]:List Int)) (inner := [.int .i64 a1]) (ok:=fun _=>True) (okp:=fun _=>True) ?hr ?hp (fun _ hk=>hk) trivial (Below.refl _ _) (Nat.le_refl _) (by simp) ?_;(case hd=>rfl);(case hg=>rfl);(case hr=>first|(go_simp;done)|(go_simp;rfl));(case hp=>exact(Reps.one (show Kd.M (Kd.int .i64) _ _ _ a1 [.int .i64 a1] from rfl) (Reps.none _ _)));intro cf w36 aD hb hg_ hnew_;clear hg_ hnew_;(first|rw [← aU.out] at aD|(simp only [Int.reduceToNat] at aD;rw [← aU.out] at aD));have n0_:=A0_ (Kd.R_elder' (zR_ af) (Kd.R_base aD) hb);have n1_:=A0_ (rL (Kd.R_new' aD (rX (zR_ af))) (bZ (zB_ HB)));have n2_:=zK aa hb;have n3_:=zB HB hb;clear af aa HB;have af:=n0_;have am:=n1_;have aa:=n2_;have HB:=n3_;clear n0_ n1_ n2_ n3_ hb aD;obtain⟨cg,ch,bc⟩:=rS am.out;subst bc)|(go_at_call 93;(with_reducible refine(sr_.calls aE _ _ al _ _ ac _ _ bL a5 bP _ ?ag ?ah ?ai ?aj ?aI ?aJ b8.out).mono ?_);(case ag=>exact zC an HB);(case ah=>exact ao.out);(case ai=>exact zC ap HB);(case aj=>exact aA.out);(case aI=>exact zD am);(case aJ=>exact(rR am.out).2.1);rintro e w39 ⟨ci,rfl,ar,hb⟩;have n0_:=A0_ (Kd.R_elder' (zR_ af) (Kd.R_base ar) hb);have n1_:=A0_ (Kd.R_elder' (zR_ am) (Kd.R_base ar) hb);have n2_:=A0_ (rL (Kd.R_new' (Kd.R_new' ar (rX (zR_ af))) (rX (zR_ am))) (bZ (zB_ HB)));have n3_:=zK aa hb;have n4_:=zB HB hb;clear af am aa HB;have af:=n0_;have am:=n1_;have aC:=n2_;have aa:=n3_;have HB:=n4_;clear n0_ n1_ n2_ n3_ n4_;(try clear hb);(try clear hk);(try clear ar);have bG:=zc0 aa;have bH:=zc1 aa;have bI:=kF aa.out 0;have bJ:=kF aa.out 1;obtain⟨cj,ck,bd⟩:=rS aC.out;subst bd)|(go_at_call 86;(with_reducible refine(s1a_.calls aE _ _ al _ _ ac _ _ a5 ba _ ?ag ?ah ?ai ?aj ?aI ?aJ b9.out).mono ?_);(case ag=>exact zC an HB);(case ah=>exact ao.out);(case ai=>exact zC ap HB);(case aj=>exact aA.out);(case aI=>exact zD aC);(case aJ=>exact(rR aC.out).2.1);rintro e w42 ⟨rfl,hb⟩;have n0_:=zR af hb;have n1_:=zR am hb;have n2_:=zR aC hb;have n3_:=zK aa hb;have n4_:=zB HB hb;clear af am aC aa HB;have af:=n0_;have am:=n1_;have aC:=n2_;have aa:=n3_;have HB:=n4_;clear n0_ n1_ n2_ n3_ n4_;(try clear hb);(try clear hk);)))
   go_ret
   exact⟨by first|rfl|(simp [*] <;> rfl),zB_ HB⟩
def s12_.f (l0:List Int):Option (List Int):=(some (([]:List Int):List Int)).bind fun aa=>(if aa.length+l0.length<17592186044416 then (some (aa ++ l0)) else (none))
theorem s12_.calls (A0:Option Addr) (c0:Nat) (l0:List Int) (r:List Int) (w:World) (ak:Kd.C (Kd.int .i64) w A0 l0.length l0) (al:l0.length≤c0) (h:s12_.f l0=some r) :
    Calls Tryz.prog 53 #[.slice A0 l0.length c0] w fun e w' => ∃ v0_:Value,e = .returned (v0_)∧Kd.R (Kd.int .i64) 3 w' w.heap.size (fun _=>True) v0_ r∧Below w.heap.size w w':=by
 have ap:=A0_ ak;have ar:=A0_ al;clear ak al
 have HB:=A0_ (Below.refl w.heap.size w)
 have H:((some (([]:List Int):List Int)).bind fun aa=>(if aa.length+l0.length<17592186044416 then (some (aa ++ l0)) else (none)))=some r:=h
 clear h
 obtain⟨aa,ab⟩ : ∃ y_:List Int,y_=(([]:List Int)):=⟨_,rfl⟩
 replace H:(if aa.length+l0.length<17592186044416 then (some (aa ++ l0)) else (none))=some r:=zH ab H
 have ag:=A0_ ab;clear ab
 have c2:=zpc H;replace H:=zph H
 have am:=A0_ c2;clear c2
 obtain⟨an,ac⟩ : ∃ y_:List Int,y_=(aa ++ l0):=⟨_,rfl⟩
 replace H:(some an)=some r:=zH ac H
 have ai:=A0_ ac;clear ac;obtain rfl:=sI H
 go_enter Tryz.func53,Tryz.ntmps53
 go_wp2_with (first|((with_reducible refine gD (N:=3) rfl ?_);refine Kd.R_lit (Kd.int .i64) _ 3 ?hg (N:=3) ?hd (xs:=([]:List Int)) (inner := []) (ok:=fun _=>True) (okp:=fun _=>True) ?hr ?hp (fun _ hk=>hk) trivial (Below.refl _ _) (Nat.le_refl _) (by simp) ?_;(case hd=>rfl);(case hg=>rfl);(case hr=>first|(go_simp;done)|(go_simp;rfl));(case hp=>exact(Reps.none _ _));intro ao w3 af hb hg_ hnew_;clear hg_ hnew_;(first|rw [← ag.out] at af|(simp only [Int.reduceToNat] at af;rw [← ag.out] at af));have ah:=A0_ (rL af (bZ (zB_ HB)));replace HB:=zB HB hb;clear hb af)|((with_reducible refine gB (b := .append) (xs := #[.tmp 3,.tmp 4]) rfl ?_);at_builtin;refine Kd.R_append_rows (Kd.int .i64) (w0:=w) w.heap.size rfl (.tmp 3) (.tmp 4) 23 3 (.int .i64 0) 8 rfl Tryz.underlying23 info3 rfl (by decide) (by omega) ao aa l0 _ _ _ (fun _=>True) (fun _=>False) rfl rfl ?aO ?aR (fun _ _ h=>h) (fun _ h=>h.elim) ?aF ?aB ?aS ?aL ?_;(case aR=>exact zC ap HB);(case aB=>exact(zB_ HB));(case aF=>exact(fun _ _=>trivial));(case aO=>exact(zR_ ah));(case aS=>exact(bZ (zB_ HB)));(case aL=>have:=am.out;omega);intro aq w5 ho hb hg hat;rw [← ai.out] at ho;replace HB:=A0_ (hb);have aj:=A0_ (ho);clear ah ho hb hg hat))
 go_ret
 exact⟨_,by first|rfl|(simp [*] <;> rfl),zR_ aj,zB_ HB⟩
def s1b_.l0:Nat→List Int→Int→Int→Int→Option (Int)
  | 0,_,_,_,_=>none
  | k+1,x0,x1,x2,x3=>if x1=x2 then (if 0≤x1 then (if x1<(x0.length:Int) then (s1b_.l0 k x0 (rd x0 x1) x2 x3) else (none)) else (none)) else (if x1=x3 then (if 0≤x1 then (if x1<(x0.length:Int) then (s1b_.l0 k x0 (rd x0 x1) x2 x3) else (none)) else (none)) else (some x1))
def s1b_.f (k:Nat) (l0:List Int) (a1:Int) (a2:Int) (a3:Int):Option (Int):=if 0≤a1 then (if a1<(l0.length:Int) then (s1b_.l0 k l0 (rd l0 a1) a2 a3) else (none)) else (none)
theorem s1b_.calls (k:Nat) (A0:Option Addr) (c0:Nat) (l0:List Int) (a1:Int) (a2:Int) (a3:Int) (r:Int) (w:World) (au:Kd.C (Kd.int .i64) w A0 l0.length l0) (av:l0.length≤c0) (h:s1b_.f k l0 a1 a2 a3=some r) :
    Calls Tryz.prog 54 #[.slice A0 l0.length c0,.int .i64 a1,.int .i64 a2,.int .i64 a3] w fun e w'=>e = .returned (.int .i64 r)∧Drawn0 w w':=by
 have an:=A0_ au;have aQ:=A0_ av;clear au av
 have H:(if 0≤a1 then (if a1<(l0.length:Int) then (s1b_.l0 k l0 (rd l0 a1) a2 a3) else (none)) else (none))=some r:=h
 clear h
 have c5:=zpc H;replace H:=zph H
 have ay:=dT c5;clear c5
 have c6:=zpc H;replace H:=zph H
 have az:=dT c6;clear c6;have H':=A0_ H;clear H
 have ac:0≤(a1:Int):=zd
 have af:a1<(l0.length:Int):=zd
 obtain⟨ag,aA,am⟩:=tI an.out a1 ac af
 cases aA
 replace ac:=eq_true ac;replace af:=eq_true af
 go_enter Tryz.func54,Tryz.ntmps54
 go_wp2
 (try generalize Value.pointer (some (ag.add (a1:Int).toNat))=pz_)
 go_loopg [1] k (fun kq v1 w' => ∃ (aa:Int),v1 = .int .i64 aa∧Aside0 (s1b_.l0 kq l0 aa a2 a3=some r)∧Aside0 (kq≤k)∧Drawn0 w w')
 case atStart=>exact⟨(rd l0 a1),zt,H',⟨Nat.le_refl _⟩,by repeat(first|exact Drawn0.refl _|apply Drawn0.step)⟩
 case round =>
  clear H';(try clear c5);(try clear ay);(try clear c6);(try clear az);(try clear am);(try clear ac);(try clear af);obtain⟨aa,rfl,HA,al,⟨m1,rfl⟩⟩:=hrel
  cases gk with
  | zero=>exact absurd HA.out (by simp [s1b_.l0])
  | succ k1 =>
   have H:=HA.out;clear HA;simp only [s1b_.l0] at H
   by_cases c7:aa=a2
   ·rw [if_pos c7] at H
    have aC:(aa == a2)=true:=beq_iff_eq.mpr c7
    have aD:(aa != a2)=false:=bne_eq_false_iff_eq.mpr c7
    clear c7
    have c8:=zpc H;replace H:=zph H
    have aM:=dT c8;clear c8
    have c9:=zpc H;replace H:=zph H
    have aN:=dT c9;clear c9;have H':=A0_ H;clear H
    have ah:0≤(aa:Int):=zd
    have ai:aa<(l0.length:Int):=zd
    obtain⟨ao,aE,aH⟩:=tI an.out aa ah ai
    obtain rfl:ag=ao:=(by injection aE)
    replace ah:=eq_true ah;replace ai:=eq_true ai
    go_wp2
    go_roundg k1
    case measure=>have:=al.out;omega
    case rel=>exact⟨(rd l0 aa),zt,H',⟨by have:=al.out;omega⟩,by repeat(first|exact Drawn0.refl _|apply Drawn0.step)⟩
   rw [if_neg c7] at H
   have aC:(aa == a2)=false:=beq_eq_false_iff_ne.mpr c7
   have aD:(aa != a2)=true:=bne_iff_ne.mpr c7
   by_cases ab:aa=a3
   ·rw [if_pos ab] at H
    have ap:(aa == a3)=true:=beq_iff_eq.mpr ab
    have aq:(aa != a3)=false:=bne_eq_false_iff_eq.mpr ab
    clear ab
    have aw:=zpc H;replace H:=zph H
    have aJ:=dT aw;clear aw
    have ax:=zpc H;replace H:=zph H
    have aK:=dT ax;clear ax;have H':=A0_ H;clear H
    have aj:0≤(aa:Int):=zd
    have ak:aa<(l0.length:Int):=zd
    obtain⟨ar,aG,aI⟩:=tI an.out aa aj ak
    obtain rfl:ag=ar:=(by injection aG)
    replace aj:=eq_true aj;replace ak:=eq_true ak
    go_wp2
    go_roundg k1
    case measure=>have:=al.out;omega
    case rel=>exact⟨(rd l0 aa),zt,H',⟨by have:=al.out;omega⟩,by repeat(first|exact Drawn0.refl _|apply Drawn0.step)⟩
   rw [if_neg ab] at H
   have ap:(aa == a3)=false:=beq_eq_false_iff_ne.mpr ab
   have aq:(aa != a3)=true:=bne_iff_ne.mpr ab
   obtain rfl:=sI H
   go_wp2
   go_ret
   exact⟨by first|rfl|(simp;done)|(simp [*];done),by repeat(first|exact Drawn0.refl _|apply Drawn0.step)⟩
end Go.Proofs.YtjebcgbmlbemcaaGreatDoor.PFnExecuteContract
