import Derived.Test.YtjebcgbmlbemcaaGreatDoorPFnExecuteContractx0
namespace Go.Proofs.YtjebcgbmlbemcaaGreatDoor.PFnExecuteContract
open Go.RowKit Go.Proofs.YtjebcgbmlbemcaaGreatDoorW.PrintWords Go.Proofs.YtjebcgbmlbemcaaGreatDoorW.PrintLast Go.Proofs.YtjebcgbmlbemcaaGreatDoorW.PrintMore
set_option maxHeartbeats 8000000
set_option maxRecDepth 100000
attribute [local go_sem] max2_int min2_int max_two min_two max_three min_three max_four min_four
set_option linter.unusedVariables false
set_option linter.unusedSimpArgs false
def lk_.l0:Nat→List Int→List Int→Int→Option (Bool)
  | 0,_,_,_=>none
  | k+1,x0,x1,x5=>if x5<(x0.length:Int) then (if 0≤x5 then (if x5<(x1.length:Int) then (if (rd x0 x5)=(rd x1 x5) then (lk_.l0 k x0 x1 (wrap64 (x5+1))) else (some false)) else (none)) else (none)) else (some true)
def lk_.f (k:Nat) (l0:List Int) (l1:List Int):Option (Bool):=if (l0.length:Int)=(l1.length:Int) then (lk_.l0 k l0 l1 0) else (some false)
theorem lk_.calls (k:Nat) (A0:Option Addr) (c0:Nat) (l0:List Int) (A1:Option Addr) (c1:Nat) (l1:List Int) (r:Bool) (w:World) (aq:Kd.C (Kd.int .i64) w A0 l0.length l0) (ar:l0.length≤c0) (au:Kd.C (Kd.int .i64) w A1 l1.length l1) (av:l1.length≤c1) (h:lk_.f k l0 l1=some r) :
    Calls Tryz.prog 31 #[.slice A0 l0.length c0,.slice A1 l1.length c1] w fun e w'=>e = .returned (.bool r)∧Drawn0 w w':=by
 have aw:=A0_ aq;have aG:=A0_ ar;clear aq ar;have ax:=A0_ au;have aH:=A0_ av;clear au av
 have H:(if (l0.length:Int)=(l1.length:Int) then (lk_.l0 k l0 l1 0) else (some false))=some r:=h
 clear h
 by_cases c3:(l0.length:Int)=(l1.length:Int)
 ·rw [if_pos c3] at H
  have al:((l0.length:Int) == (l1.length:Int))=true:=beq_iff_eq.mpr c3
  have am:((l0.length:Int) != (l1.length:Int))=false:=bne_eq_false_iff_eq.mpr c3
  have an:(l0.length == l1.length)=true:=by first|simpa using c3|(simp at c3 ⊢;omega)
  clear c3;have H':=A0_ H;clear H
  go_enter Tryz.func31,Tryz.ntmps31
  go_wp2
  repeat(go_quiet (fail);try go_wp2)
  go_loopg [5] k (fun kq v5 w' => ∃ (aa:Int),v5 = .int .i64 aa∧Aside0 (lk_.l0 kq l0 l1 aa=some r)∧Aside0 (kq≤k)∧Drawn0 w w')
  case atStart=>exact⟨(0),zt,H',⟨Nat.le_refl _⟩,by repeat(first|exact Drawn0.refl _|apply Drawn0.step)⟩
  case round =>
   clear H';(try clear c1);(try clear c3);(try clear al);(try clear am);(try clear an);obtain⟨aa,rfl,HA,ay,⟨m1,rfl⟩⟩:=hrel
   cases gk with
   | zero=>exact absurd HA.out (by simp [lk_.l0])
   | succ k1 =>
    have H:=HA.out;clear HA;simp only [lk_.l0] at H
    by_cases c4:aa<(l0.length:Int)
    ·rw [if_pos c4] at H
     have az:=dT c4;clear c4
     have c5:=zpc H;replace H:=zph H
     have aD:=dT c5;clear c5
     have c6:=zpc H;replace H:=zph H
     have aE:=dT c6;clear c6
     by_cases c7:(rd l0 aa)=(rd l1 aa)
     ·rw [if_pos c7] at H
      have aA:((rd l0 aa) == (rd l1 aa))=true:=beq_iff_eq.mpr c7
      have aC:((rd l0 aa) != (rd l1 aa))=false:=bne_eq_false_iff_eq.mpr c7
      clear c7;have H':=A0_ H;clear H
      have ab:0≤(aa:Int):=zd
      have ac:aa<(l0.length:Int):=zd
      obtain⟨ao,ah,aj⟩:=tI aw.out aa ab ac
      cases ah
      replace ab:=eq_true ab;replace ac:=eq_true ac
      have af:0≤(aa:Int):=zd
      have ag:aa<(l1.length:Int):=zd
      obtain⟨ap,ai,ak⟩:=tI ax.out aa af ag
      cases ai
      replace af:=eq_true af;replace ag:=eq_true ag
      go_wp2
      repeat(go_quiet (fail);try go_wp2)
      go_roundg k1
      case measure=>have:=ay.out;omega
      case rel=>exact⟨(wrap64 (aa+1)),zt,H',⟨by have:=ay.out;omega⟩,by repeat(first|exact Drawn0.refl _|apply Drawn0.step)⟩
     rw [if_neg c7] at H
     have aA:((rd l0 aa) == (rd l1 aa))=false:=beq_eq_false_iff_ne.mpr c7
     have aC:((rd l0 aa) != (rd l1 aa))=true:=bne_iff_ne.mpr c7
     obtain rfl:=sI H
     have ab:0≤(aa:Int):=zd
     have ac:aa<(l0.length:Int):=zd
     obtain⟨ao,ah,aj⟩:=tI aw.out aa ab ac
     cases ah
     replace ab:=eq_true ab;replace ac:=eq_true ac
     have af:0≤(aa:Int):=zd
     have ag:aa<(l1.length:Int):=zd
     obtain⟨ap,ai,ak⟩:=tI ax.out aa af ag
     cases ai
     replace af:=eq_true af;replace ag:=eq_true ag
     go_wp2
     repeat(go_quiet (fail);try go_wp2)
     go_ret
     exact⟨by first|rfl|(simp;done)|(simp [*];done),by repeat(first|exact Drawn0.refl _|apply Drawn0.step)⟩
    rw [if_neg c4] at H;have az:=dF c4;clear c4;obtain rfl:=sI H
    go_wp2
    repeat(go_quiet (fail);try go_wp2)
    go_ret
    exact⟨by first|rfl|(simp;done)|(simp [*];done),by repeat(first|exact Drawn0.refl _|apply Drawn0.step)⟩
 rw [if_neg c3] at H
 have al:((l0.length:Int) == (l1.length:Int))=false:=beq_eq_false_iff_ne.mpr c3
 have am:((l0.length:Int) != (l1.length:Int))=true:=bne_iff_ne.mpr c3
 have an:(l0.length == l1.length)=false:=by first|simpa using c3|(simp at c3 ⊢;omega)
 obtain rfl:=sI H
 go_enter Tryz.func31,Tryz.ntmps31
 go_wp2
 repeat(go_quiet (fail);try go_wp2)
 go_ret
 exact⟨by first|rfl|(simp;done)|(simp [*];done),by repeat(first|exact Drawn0.refl _|apply Drawn0.step)⟩
def ll_.f (k:Nat) (aa:List Int) (ab:List Int) (ac:List Int) (af:List Int):Option (Bool):=(lk_.f k aa ac).bind fun ag=>(if ag=true then ((lk_.f k ab af).bind fun ah=>(some ah)) else (some false))
theorem ll_.calls (k:Nat) (ao:Option Addr) (ap:Nat) (ab:List Int) (au:Option Addr) (av:Nat) (ag:List Int) (aq:Option Addr) (ar:Nat) (ac:List Int) (aw:Option Addr) (ax:Nat) (ah:List Int) (r:Bool) (w:World) (aA:Kd.C (Kd.int .i64) w ao ab.length ab) (aC:ab.length≤ap) (aD:Kd.C (Kd.int .i64) w au ag.length ag) (aE:ag.length≤av) (aG:Kd.C (Kd.int .i64) w aq ac.length ac) (aH:ac.length≤ar) (aI:Kd.C (Kd.int .i64) w aw ah.length ah) (aJ:ah.length≤ax) (h:ll_.f k ab ag ac ah=some r) :
    Calls Tryz.prog 9 #[.agg #[.slice ao ab.length ap,.slice au ag.length av],.agg #[.slice aq ac.length ar,.slice aw ah.length ax]] w fun e w'=>e = .returned (.bool r)∧Below w.heap.size w w':=by
 have bp:=Tryz.underlying25;have aK:=A0_ aA;have aM:=A0_ aC;clear aA aC;have aT:=A0_ aD;have aU:=A0_ aE;clear aD aE;have aN:=A0_ aG;have aQ:=A0_ aH;clear aG aH;have aV:=A0_ aI;have aW:=A0_ aJ;clear aI aJ
 have HB:=A0_ (Below.refl w.heap.size w)
 have H:((lk_.f k ab ac).bind fun ay=>(if ay=true then ((lk_.f k ag ah).bind fun az=>(some az)) else (some false)))=some r:=h
 clear h;obtain⟨ay,A3,H⟩:=zbind H
 by_cases c4:ay=true
 ·subst c4
  rw [if_pos rfl] at H;obtain⟨az,A5,H⟩:=zbind H;obtain rfl:=sI H
  go_enter Tryz.func9,Tryz.ntmps9
  go_wp2_with (first|((with_reducible refine gD (N:=2) rfl ?_);refine zX (N:=2) (cs := #[.slice ao ab.length ap,.slice au ag.length av]) (t:=25) ?_;intro aX hg w6 hbox hb;have aa:=A0_ (hbox);have aY:=zG hg HB;have aZ:=zG hg HB;replace HB:=zB HB hb;clear hb hbox hg)|((with_reducible refine gD (N:=3) rfl ?_);refine zX (N:=3) (cs := #[.slice aq ac.length ar,.slice aw ah.length ax]) (t:=25) ?_;intro a4 hg w7 hbox hb;have af:=A0_ (hbox);have a5:=zG hg HB;have a6:=zG hg HB;replace HB:=zB HB hb;have ai:=zL hg aa;have aj:=zM hg aa;replace aa:=zK aa hb;clear hb hbox hg;have bq:=ai.out;have br:=aj.out;have bj:=zc0 aa;have bk:=zc1 aa;have bl:=kF aa.out 0;have bm:=kF aa.out 1;have a7:=zc0 af;have a8:=zc1 af;have a9:=kF af.out 0;have ba:=kF af.out 1)|((with_reducible refine gC (f:=31) rfl ?_);refine zJ (some 9) Tryz.func31 #[.slice ao ab.length ap,.slice aq ac.length ar] ?_;(with_reducible refine(lk_.calls k _ _ ab _ _ ac true _ ?ak ?al ?am ?an A3.out).mono ?_);(case ak=>exact zC aK HB);(case al=>exact aM.out);(case am=>exact zC aN HB);(case an=>exact aQ.out);rintro e w' ⟨rfl,⟨nd,rfl⟩⟩;refine⟨_,rfl,?_⟩)|(go_at_call 31;(with_reducible refine(lk_.calls k _ _ ag _ _ ah az _ ?ak ?al ?am ?an A5.out).mono ?_);(case ak=>repeat(first|exact(cB aT.out (zB_ HB))|(with_reducible refine cA ?_ _)|(with_reducible refine cN ?_ _)|(with_reducible refine cD ?_)));(case al=>exact aU.out);(case am=>repeat(first|exact(cB aV.out (zB_ HB))|(with_reducible refine cA ?_ _)|(with_reducible refine cN ?_ _)|(with_reducible refine cD ?_)));(case an=>exact aW.out);rintro e w' ⟨rfl,⟨nd,rfl⟩⟩))
  go_ret
  exact⟨by first|rfl|(simp [*] <;> rfl),zB_ HB⟩
 replace c4:=Bool.eq_false_iff.mpr c4;subst c4
 rw [if_neg (show ¬ (false=true) by decide)] at H
 obtain rfl:=sI H
 go_enter Tryz.func9,Tryz.ntmps9
 go_wp2_with (first|((with_reducible refine gD (N:=2) rfl ?_);refine zX (N:=2) (cs := #[.slice ao ab.length ap,.slice au ag.length av]) (t:=25) ?_;intro aX hg w11 hbox hb;have aa:=A0_ (hbox);have aY:=zG hg HB;have aZ:=zG hg HB;replace HB:=zB HB hb;clear hb hbox hg)|((with_reducible refine gD (N:=3) rfl ?_);refine zX (N:=3) (cs := #[.slice aq ac.length ar,.slice aw ah.length ax]) (t:=25) ?_;intro a4 hg w12 hbox hb;have af:=A0_ (hbox);have a5:=zG hg HB;have a6:=zG hg HB;replace HB:=zB HB hb;have ai:=zL hg aa;have aj:=zM hg aa;replace aa:=zK aa hb;clear hb hbox hg;have bn:=ai.out;have bo:=aj.out;have bb:=zc0 aa;have bc:=zc1 aa;have bd:=kF aa.out 0;have be:=kF aa.out 1;have bf:=zc0 af;have bg:=zc1 af;have bh:=kF af.out 0;have bi:=kF af.out 1)|((with_reducible refine gC (f:=31) rfl ?_);refine zJ (some 9) Tryz.func31 #[.slice ao ab.length ap,.slice aq ac.length ar] ?_;(with_reducible refine(lk_.calls k _ _ ab _ _ ac false _ ?ak ?al ?am ?an A3.out).mono ?_);(case ak=>exact zC aK HB);(case al=>exact aM.out);(case am=>exact zC aN HB);(case an=>exact aQ.out);rintro e w' ⟨rfl,⟨nd,rfl⟩⟩;refine⟨_,rfl,?_⟩))
 go_ret
 exact⟨by first|rfl|(simp [*] <;> rfl),zB_ HB⟩
def i8_.fine (l:List Int) (i:Nat):Prop := ∀ j:Nat,j<i→(0≤rd l (j:Int)∧rd l (j:Int)<l.length) ∧ ∀ k:Nat,k<j→rd l (k:Int)≠rd l (j:Int)
instance (l:List Int) (i:Nat):Decidable (i8_.fine l i):=by unfold i8_.fine;infer_instance
def i8_.met (l:List Int) (i:Nat) (x:Nat):Bool:=(List.range i).any (fun j=>decide (rd l (j:Int)=(x:Int)))
def i8_.cells (l:List Int) (i:Nat):Array Value:=((List.range 12).map (fun x=>Value.bool (i8_.met l i x))).toArray
def i8_.val (l:List Int):Bool:=decide ((1≤l.length∧l.length≤12)∧i8_.fine l l.length)
def i8_.f (l0:List Int):Option Bool:=some (i8_.val l0)
theorem i8_.met_succ (l:List Int) (i x:Nat):i8_.met l (i+1) x=(i8_.met l i x || decide (rd l (i:Int)=(x:Int))):=by
  unfold i8_.met;rw [List.range_succ,List.any_append];simp
theorem i8_.met_iff {l:List Int} {i x:Nat} : i8_.met l i x=true ↔ ∃ k:Nat,k<i∧rd l (k:Int)=(x:Int):=by
  unfold i8_.met
  rw [List.any_eq_true]
  constructor
  · rintro⟨k,hk,h⟩;exact⟨k,List.mem_range.1 hk,oD h⟩
  rintro⟨k,hk,h⟩;exact⟨k,List.mem_range.2 hk,dT h⟩
theorem i8_.cells_get (l:List Int) (i:Nat) (x:Nat) (h:x<12):(i8_.cells l i)[x]? = some (.bool (i8_.met l i x)):=by
  unfold i8_.cells;simp [h]
theorem i8_.cells_set (l:List Int) (i:Nat) (n:Int) (h0:0≤n) (h:n<12) (hn:rd l (i:Int)=n):(i8_.cells l i).setIfInBounds n.toNat (.bool true)=i8_.cells l (i+1):=by
  apply Array.ext_getElem?
  intro q
  by_cases hq:q<12
  · rw [i8_.cells_get l (i+1) q hq,i8_.met_succ,hn,Array.getElem?_setIfInBounds]
    by_cases e:n.toNat=q
    · rw [if_pos e,if_pos (by simp [i8_.cells];omega),dT (by omega),Bool.or_true]
    rw [if_neg e,i8_.cells_get l i q hq,dF (by omega),Bool.or_false]
  have h1 : ∀ i,(i8_.cells l i).size=12:=fun i=>by simp [i8_.cells]
  rw [Array.getElem?_eq_none (by rw [Array.size_setIfInBounds,h1];omega),Array.getElem?_eq_none (by rw [h1];omega)]
theorem i8_.val_bad (l:List Int) (i:Int) (h0:0≤i) (h1:i<l.length) (h : ¬ (0≤rd l i∧rd l i<l.length ∧ ∀ k:Nat,(k:Int)<i→rd l (k:Int)≠rd l i)):i8_.val l=false:=by
  unfold i8_.val
  refine dF (fun⟨_,hf⟩=>h ?_)
  have:=hf i.toNat (by omega)
  rw [Int.toNat_of_nonneg h0] at this
  exact⟨this.1.1,this.1.2,fun k hk=>this.2 k (by omega)⟩
theorem i8_.wv_long (A0:Option Addr) (c0:Nat) (l0:List Int) (w:World) (aa:Kd.C (Kd.int .i64) w A0 l0.length l0) (ab:l0.length≤c0) (ac:1≤l0.length) (af:l0.length≤12) :
    Calls Tryz.prog 58 #[.slice A0 l0.length c0] w fun e w'=>e = .returned (.bool (i8_.val l0))∧Below w.heap.size w w':=by
    have ag:=A0_ aa;have ah:=A0_ ab;clear aa ab
    have b0:decide ((l0.length:Int)<1)=false:=dF (by omega)
    have b1:decide (12<(l0.length:Int))=false:=dF (by omega)
    have HL:=A0_ (And.intro ac af)
    clear ac af
    have HN:Aside0 (∀ i,(i8_.cells l0 i).size=12):=⟨fun i=>by simp [i8_.cells]⟩
    have HZ:Aside0 (i8_.cells l0 0 = #[.bool false,.bool false,.bool false,.bool false,.bool false,.bool false,.bool false,.bool false,.bool false,.bool false,.bool false,.bool false]):=⟨rfl⟩
    go_enter Tryz.func58,Tryz.ntmps58
    go_wp2
    go_loopw [17] (fun v17 wr => ∃ (i:Int),v17 = .int .i64 i∧Aside0 (0≤i∧i≤(l0.length:Int))∧Aside0 (i8_.fine l0 i.toNat)∧(∃ m,wr=(w.alloc (.cells (i8_.cells l0 i.toNat) 103)).drewN m)) (fun i _=>l0.length - (intOf i).toNat)
    case atStart=>exact⟨0,rfl,⟨by omega⟩,⟨fun j hj=>absurd hj (Nat.not_lt_zero j)⟩,0,by rw [show(0:Int).toNat=0 from rfl,HZ.out];rfl⟩
    case round =>
      obtain⟨i,rfl,HI,HF,m,rfl⟩:=hrel;clear b0 b1
      have HB:Aside0 (Below w.heap.size w ((w.alloc (.cells (i8_.cells l0 i.toNat) 103)).drewN m)):=⟨by exact bN ((Below.refl _ _).alloc (Nat.le_refl _) _) _⟩
      by_cases hlt:i<(l0.length:Int)
      · have hc:decide (i<(l0.length:Int))=true:=dT hlt
        obtain⟨ad',e1,hx⟩:=tI ag.out i HI.out.1 hlt
        cases e1
        replace hx:=(HB.out.cell (wL w _ hx)).trans hx
        have p1:=eq_true HI.out.1;have p2:=eq_true hlt;have HT:=A0_ hlt;clear hlt
        obtain⟨n,hn⟩ : ∃ n,n=rd l0 i:=⟨_,rfl⟩
        rw [← hn] at hx
        have HNN:=A0_ hn;clear hn
        by_cases c1:n<0
        · have d1:decide (n<0)=true:=dT c1
          clear c1
          have HV:Aside0 (i8_.val l0=false):=⟨i8_.val_bad l0 i HI.out.1 HT.out (fun h=>by have:=HNN.out;have:=oD d1;have:=h.1;omega)⟩
          go_wp2
          go_ret
          exact⟨by rw [HV.out];rfl,HB.out⟩
        have d1:decide (n<0)=false:=dF c1
        by_cases c2:n≥(l0.length:Int)
        · have d2:decide ((l0.length:Int)≤n)=true:=dT c2
          clear c1 c2
          have HV:Aside0 (i8_.val l0=false):=⟨i8_.val_bad l0 i HI.out.1 HT.out (fun h=>by have:=HNN.out;have:=oD d2;have:=h.2.1;omega)⟩
          go_wp2
          go_ret
          exact⟨by rw [HV.out];rfl,HB.out⟩
        have d2:decide ((l0.length:Int)≤n)=false:=dF c2
        have q1:=eq_true (show 0≤n by omega)
        have q2:=eq_true (show n<12 by have:=HL.out;omega)
        have HQ:=A0_ (show 0≤n∧n<12 by have:=HL.out;omega)
        clear c1 c2
        obtain⟨b,hb⟩ : ∃ b,b=i8_.met l0 i.toNat n.toNat:=⟨_,rfl⟩
        have HBB:=A0_ hb;clear hb
        have hy:((w.alloc (.cells (i8_.cells l0 i.toNat) 103)).drewN m).cell? ⟨w.heap.size,n.toNat,none⟩=some (.bool b):=by
          rw [HBB.out]
          have hc_:=i8_.cells_get l0 i.toNat n.toNat (by have:=HQ.out;omega)
          show World.cell? (w.alloc (.cells (i8_.cells l0 i.toNat) 103)) ⟨w.heap.size,n.toNat,none⟩=_
          simp only [World.cell?,World.alloc,Array.getElem?_push_size,Option.isSome_none]
          exact hc_
        cases b with
        | true =>
          have HV:Aside0 (i8_.val l0=false):=⟨i8_.val_bad l0 i HI.out.1 HT.out (fun h=>by
            obtain⟨k,hk,e⟩:=i8_.met_iff.1 HBB.out.symm
            have:=HQ.out
            have:=HNN.out
            exact h.2.2 k (by omega) (by omega))⟩
          go_wp2
          go_ret
          exact⟨by rw [HV.out];rfl,HB.out⟩
        | false =>
          have HI2:=A0_ (show(i+1).toNat=i.toNat+1 by have:=HI.out;omega)
          have HW:=A0_ (show wrap64 (i+1)=i+1 by have:=HI.out;have:=HL.out;have:=HT.out;unfold wrap64;omega)
          have HF2:Aside0 (i8_.fine l0 (i.toNat+1)):=⟨fun j hj=>by
            by_cases e:j=i.toNat
            · subst e
              rw [Int.toNat_of_nonneg HI.out.1,← HNN.out]
              refine⟨⟨HQ.out.1,by have:=of_decide_eq_false d2;omega⟩,fun k hk e => ?_⟩
              have:=HBB.out
              rw [i8_.met_iff.2 ⟨k,hk,by rw [e];have:=HQ.out;omega⟩] at this
              cases this
            exact HF.out j (by omega)⟩
          have HS:=A0_ (i8_.cells_set l0 i.toNat n HQ.out.1 HQ.out.2 (by rw [Int.toNat_of_nonneg HI.out.1,HNN.out]))
          go_wp2
          go_roundw
          case rel=>exact⟨i+1,by rw [HW.out],⟨by have:=HI.out;have:=HT.out;omega⟩,⟨by rw [HI2.out];exact HF2.out⟩,m,by
            rw [HI2.out,← HS.out]
            show((w.alloc (.cells (i8_.cells l0 i.toNat) 103)).setCell ⟨w.heap.size,n.toNat,none⟩ (.bool true)).drewN m=_
            rw [World.setCell_alloc_at _ _ _ _ _ rfl]⟩
          case measure=>simp only [intOf,HW.out];have:=HI.out;have:=HT.out;omega
      have hc:decide (i<(l0.length:Int))=false:=dF hlt
      have HV:Aside0 (i8_.val l0=true):=⟨by
        have e:i.toNat=l0.length:=by have:=HI.out;omega
        have hF:=HF.out;rw [e] at hF
        exact dT ⟨HL.out,hF⟩⟩
      clear hlt
      go_wp2
      go_ret
      exact⟨by rw [HV.out];rfl,HB.out⟩
theorem i8_.calls (A0:Option Addr) (c0:Nat) (l0:List Int) (r:Bool) (w:World) (aa:Kd.C (Kd.int .i64) w A0 l0.length l0) (ab:l0.length≤c0) (h:i8_.f l0=some r) :
    Calls Tryz.prog 58 #[.slice A0 l0.length c0] w fun e w'=>e = .returned (.bool r)∧Below w.heap.size w w':=by
  obtain rfl:=sI h;clear h
  by_cases h1:1≤l0.length
  · by_cases h2:l0.length≤12
    · exact i8_.wv_long A0 c0 l0 w aa ab h1 h2
    have HV:Aside0 (i8_.val l0=false):=⟨dF (fun k=>h2 k.1.2)⟩
    have b0:decide ((l0.length:Int)<1)=false:=dF (by omega)
    have b1:decide (12<(l0.length:Int))=true:=dT (by omega)
    clear h1 h2 aa ab
    go_enter Tryz.func58,Tryz.ntmps58
    go_wp2
    go_ret
    exact⟨by rw [HV.out];rfl,(Below.refl _ _).alloc (Nat.le_refl _) _⟩
  have HV:Aside0 (i8_.val l0=false):=⟨dF (fun k=>h1 k.1.1)⟩
  have b0:decide ((l0.length:Int)<1)=true:=dT (by omega)
  clear h1 aa ab
  go_enter Tryz.func58,Tryz.ntmps58
  go_wp2
  go_ret
  exact⟨by rw [HV.out];rfl,(Below.refl _ _).alloc (Nat.le_refl _) _⟩
def sq_.go (l:List Int) (m:Int):Nat→Int
  | 0=>m
  | i+1=>if sq_.go l m i<rd l (i:Int) then rd l (i:Int) else sq_.go l m i
/-- The greatest of the first i numbers; the first one for i = 0. -/
def sq_.up (l:List Int) (i:Nat):Int:=sq_.go l (rd l 0) i
def sq_.f (l0:List Int):Option Int:=if 0<l0.length then some (sq_.up l0 l0.length) else none
theorem sq_.calls (A0:Option Addr) (c0:Nat) (l0:List Int) (r:Int) (w:World) (ab:Kd.C (Kd.int .i64) w A0 l0.length l0) (ac:l0.length≤c0) (h:sq_.f l0=some r) :
    Calls Tryz.prog 59 #[.slice A0 l0.length c0] w fun e w'=>e = .returned (.int .i64 r)∧Drawn0 w w':=by
  unfold sq_.f at h
  by_cases hl:0<l0.length
  · rw [if_pos hl] at h
    obtain rfl:=sI h;clear h;have aa:=A0_ ab;have ah:=A0_ ac;clear ab ac
    have b0:decide (l0.length<1)=false:=dF (by omega)
    have b1:decide ((l0.length:Int)<1)=false:=dF (by omega)
    obtain⟨ad,e0,af⟩:=tI aa.out 0 (by omega) (by omega)
    cases e0
    have ag:w.cell? ad=some (.int .i64 (rd l0 0)):=by cases ad;exact af
    clear af
    have p0:(0:Int)<(l0.length:Int):=by omega
    have HM:=A0_ (show sq_.up l0 1=rd l0 0 by show(if rd l0 0<rd l0 ((0:Nat):Int) then rd l0 ((0:Nat):Int) else rd l0 0)=rd l0 0;split <;> rfl)
    have HL:=A0_ hl
    go_enter Tryz.func59,Tryz.ntmps59
    go_wp2
    go_loopw [3,4] (fun v3 v4 wr => ∃ (i:Int),v3 = .int .i64 (sq_.up l0 i.toNat)∧v4 = .int .i64 i∧Aside0 (1≤i∧i≤(l0.length:Int))∧Drawn0 w wr) (fun _ i _=>l0.length - (intOf i).toNat)
    case atStart=>exact⟨1,by rw [show(1:Int).toNat=1 from rfl,HM.out],rfl,⟨by have:=HL.out;omega⟩,by repeat(first|exact Drawn0.refl _|apply Drawn0.step)⟩
    case round =>
      obtain⟨i,rfl,rfl,HI,⟨m,rfl⟩⟩:=hrel;clear ag p0 b0 b1
      by_cases hlt:i<(l0.length:Int)
      · have hI:=HI.out
        have hc:decide (i<(l0.length:Int))=true:=dT hlt
        obtain⟨ad',e1,hx⟩:=tI aa.out i (by omega) hlt
        cases e1
        have p:0≤i:=by omega
        have HS:=A0_ (show sq_.up l0 (i+1).toNat=if sq_.up l0 i.toNat<rd l0 i then rd l0 i else sq_.up l0 i.toNat by
          rw [show(i+1).toNat=i.toNat+1 by omega]
          show(if sq_.up l0 i.toNat<rd l0 ((i.toNat:Nat):Int) then rd l0 ((i.toNat:Nat):Int) else sq_.up l0 i.toNat)=_
          rw [Int.toNat_of_nonneg p])
        have HT:=A0_ hlt;clear hI;have p1:=eq_true p;have p2:=eq_true hlt;clear p hlt
        have HW:=A0_ (show wrap64 (i+1)=i+1 by have:=HI.out;have:=HT.out;have:=aa.out.2.1;unfold wrap64;omega)
        go_wp2
        go_roundw
        case rel=>exact⟨i+1,by rw [HS.out],by rw [HW.out],⟨by have:=HI.out;have:=HT.out;omega⟩,by repeat(first|exact Drawn0.refl _|apply Drawn0.step)⟩
        case measure=>simp only [intOf,HW.out];have:=HI.out;have:=HT.out;omega
      have hc:decide (i<(l0.length:Int))=false:=dF hlt
      have HE:=A0_ (show i=(l0.length:Int) by have:=HI.out;omega)
      clear hlt
      go_wp2
      go_ret
      exact⟨by rw [HE.out];rfl,by repeat(first|exact Drawn0.refl _|apply Drawn0.step)⟩
  rw [if_neg hl] at h;cases h
def if_.l0:Nat→List Int→Int→Int→Option (List Int)
  | 0,_,_,_=>none
  | k+1,x3,x8,x9=>if x9<x8 then (if 0≤x9 then (if x9<(x3.length:Int) then (if_.l0 k (x3.set (x9:Int).toNat x9) x8 (wrap64 (x9+1))) else (none)) else (none)) else (some x3)
def if_.f (k:Nat) (a0:Int):Option (List Int):=if 0≤a0 then (if (a0:Int).toNat≤35184372088832 then ((some (List.replicate (a0:Int).toNat 0:List Int)).bind fun aa=>(if_.l0 k aa (aa.length:Int) 0)) else (none)) else (none)
theorem if_.calls (k:Nat) (a0:Int) (r:List Int) (w:World) (h:if_.f k a0=some r) :
    Calls Tryz.prog 83 #[.int .i64 a0] w fun e w' => ∃ v0_:Value,e = .returned (v0_)∧Kd.R (Kd.int .i64) 3 w' w.heap.size (fun _=>True) v0_ r∧Below w.heap.size w w':=by
 have HB:=A0_ (Below.refl w.heap.size w)
 have H:(if 0≤a0 then (if (a0:Int).toNat≤35184372088832 then ((some (List.replicate (a0:Int).toNat 0:List Int)).bind fun ab=>(if_.l0 k ab (ab.length:Int) 0)) else (none)) else (none))=some r:=h
 clear h
 have c2:=zpc H;replace H:=zph H
 have ay:=eq_true c2;have az:=dT c2;clear c2
 have c3:=zpc H;replace H:=zph H
 have aA:=eq_true c3;have aC:=dT c3;clear c3
 obtain⟨ab,ah⟩ : ∃ y_:List Int,y_=(List.replicate (a0:Int).toNat 0):=⟨_,rfl⟩
 replace H:(if_.l0 k ab (ab.length:Int) 0)=some r:=zH ah H
 have an:=A0_ ah;clear ah;have H':=A0_ H;clear H
 go_enter Tryz.func83,Tryz.ntmps83
 go_wp2_with (first|((with_reducible refine gD (N:=6) rfl ?_);refine Kd.R_make (Kd.int .i64) _ 3 rfl (N:=6) rfl 23 _ _ rfl a0 rfl rfl Tryz.underlying23 (.int .i64 0) 8 info3 rfl (by decide) (by omega) 0 (ok:=fun _=>True) (okp:=fun _=>True) rfl (fun _ hk=>hk) trivial (zd) (Nat.le_trans (Nat.mul_le_mul_right _ (zd:a0.toNat≤35184372088832)) (by omega)) (Below.refl _ _) (Nat.le_refl _) ?_;intro aJ w4 aj hb hg_ hnew_;clear hg_ hnew_;(first|rw [← an.out] at aj|(simp only [Int.reduceToNat] at aj;rw [← an.out] at aj));have ao:=A0_ (rL aj (bZ (zB_ HB)));replace HB:=zB HB hb;clear hb aj;obtain⟨aE,aw,aG⟩:=rS ao.out;subst aG))
 go_loopg [9] k (fun kq v9 w' => ∃ (ag:List Int) (aa:Int),v9 = .int .i64 aa∧Aside0 (if_.l0 kq ag (ab.length:Int) aa=some r)∧Aside0 (kq≤k)∧Aside0 (Kd.R (Kd.int .i64) 3 w' w.heap.size (fun _=>True) (.slice aE ab.length aw) ag)∧Aside0 (Below w.heap.size w w'))
 case atStart=>exact⟨(ab),(0),zt,H',⟨Nat.le_refl _⟩,⟨zR_ ao⟩,⟨zB_ HB⟩⟩
 case round =>
  clear H';(try clear c2);(try clear ay);(try clear az);(try clear c3);(try clear aA);(try clear aC);obtain⟨ag,aa,rfl,HA,ax,af,HB⟩:=hrel;have ac:=(rR af.out).1;rw [ac] at af;(try simp only [ac])
  cases gk with
  | zero=>exact absurd HA.out (by simp [if_.l0])
  | succ k1 =>
   have H:=HA.out;clear HA;simp only [if_.l0] at H
   by_cases c7:aa<(ab.length:Int)
   ·rw [if_pos c7] at H
    have ak:=dT c7;(try simp only [ac] at ak);clear c7
    have c8:=zpc H;replace H:=zph H
    have aK:=dT c8;clear c8
    have c9:=zpc H;replace H:=zph H
    have aD:=dT c9;(try simp only [ac] at aD);clear c9
    obtain⟨al,ai⟩ : ∃ y_:List Int,y_=(ag.set (aa:Int).toNat aa):=⟨_,rfl⟩
    replace H:(if_.l0 k1 al (ab.length:Int) (wrap64 (aa+1)))=some r:=zH ai H
    have av:=A0_ ai;clear ai;have H':=A0_ H;clear H
    have ap:0≤(aa:Int):=zd
    have aq:(aa:Int)<((ag.length:Int):Int):=zd
    obtain⟨am,aM,ar,au,gl10,cl10,HG10⟩:=Kd.R_form af.out (by omega)
    (first|cases ar|(injection ar with ea_ en_ ec_;(first|subst ea_|(injection ea_ with ea_;subst ea_));subst ec_;clear en_))
    have GB10:=A0_ au;have GG10:=A0_ HG10;clear au gl10 HG10
    obtain⟨aH,aI⟩:=Kd.R_celln 0 af.out (aa:Int) ap aq
    replace ap:=eq_true ap;replace aq:=eq_true aq
    have HP11:=Kd.R_putg af.out (aa:Int) aa
    go_wp2_with (first|((with_reducible refine gS (t:=3) (p:=15) rfl ?_);refine store_event (t:=3) (p:=15) (v := ?vo_w12) (w1:=(wr.setCell ⟨am,(aa:Int).toNat,none⟩ (.int .i64 aa))) ?hg ?ho ?hn ?hr ?_;(case ho=>rfl);(case hg=>rfl);(case hn=>rfl);(case hr=>first|(go_simp;done)|(go_simp;rfl));intro w12 hw;have hg:wr.grownBy w12 (some am):=(by rw [hw];exact HP11.2);have hp_:Kd.R (Kd.int .i64) 3 w12 w.heap.size (fun _=>True) (.slice (some ⟨am,0,none⟩) ag.length aw) al:=(by rw [hw,av.out];exact HP11.1);clear HP11;replace af:=A0_ (hp_);replace HB:=A0_ ((by rw [hw];exact bS (HB.out) GB10.out:Below w.heap.size w w12));clear hg hw hp_))
    (try simp only [← ac])
    go_roundg k1
    case measure=>have:=ax.out;omega
    case rel=>exact⟨(al),(wrap64 (aa+1)),zt,H',⟨by have:=ax.out;omega⟩,⟨by(try simp only [ac]);(with_reducible repeat(first|apply rA|apply rN|apply rD));exact af.out⟩,⟨zB_ HB⟩⟩
   rw [if_neg c7] at H;have ak:=dF c7;(try simp only [ac] at ak);clear c7;obtain rfl:=sI H
   go_wp2
   go_ret
   exact⟨_,by first|rfl|(simp [*] <;> rfl),zR_ af,zB_ HB⟩
end Go.Proofs.YtjebcgbmlbemcaaGreatDoor.PFnExecuteContract
