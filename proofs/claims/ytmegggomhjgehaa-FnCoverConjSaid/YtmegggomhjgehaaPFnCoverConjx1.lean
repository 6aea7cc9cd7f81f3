import Derived.Test.YtmegggomhjgehaaPFnCoverConjx0
namespace Go.Proofs.Ytmegggomhjgehaa.PFnCoverConj
open Go.RowKit Go.Proofs.YtmegggomhjgehaaW.PrintWords Go.Proofs.YtmegggomhjgehaaW.PrintLast Go.Proofs.YtmegggomhjgehaaW.PrintMore
set_option maxHeartbeats 8000000
set_option maxRecDepth 100000
attribute [local go_sem] max2_int min2_int max_two min_two max_three min_three max_four min_four
def i8_.fine (l:List Int) (i:Nat):Prop := ∀ j:Nat,j<i→(0≤rd l (j:Int)∧rd l (j:Int)<l.length) ∧ ∀ k:Nat,k<j→rd l (k:Int)≠rd l (j:Int)
instance (l:List Int) (i:Nat):Decidable (i8_.fine l i):=by unfold i8_.fine;infer_instance
def i8_.met (l:List Int) (i:Nat) (x:Nat):Bool:=(List.range i).any (fun j=>decide (rd l (j:Int)=(x:Int)))
def i8_.cells (l:List Int) (i:Nat):Array Value:=((List.range 12).map (fun x=>Value.bool (i8_.met l i x))).toArray
def i8_.val (l:List Int):Bool:=decide ((1≤l.length∧l.length≤12)∧i8_.fine l l.length)
def i8_.f (l0:List Int):Option Bool:=some (i8_.val l0)
theorem i8_.met_succ (l:List Int) (i x:Nat):i8_.met l (i+1) x=(i8_.met l i x || decide (rd l (i:Int)=(x:Int))):=by
  unfold i8_.met;rw [List.range_succ,List.any_append];simp
theorem i8_.met_iff {l:List Int} {i x:Nat} : i8_.met l i x=true ↔ ∃ k:Nat,k<i∧rd l (k:Int)=(x:Int):=by
  unfold i8_.met
  rw [List.any_eq_true]
  constructor
  · rintro⟨k,hk,h⟩;exact⟨k,List.mem_range.1 hk,oD h⟩
  rintro⟨k,hk,h⟩;exact⟨k,List.mem_range.2 hk,dT h⟩
theorem i8_.cells_get (l:List Int) (i:Nat) (x:Nat) (h:x<12):(i8_.cells l i)[x]? = some (.bool (i8_.met l i x)):=by
  unfold i8_.cells;simp [h]
theorem i8_.cells_set (l:List Int) (i:Nat) (n:Int) (h0:0≤n) (h:n<12) (hn:rd l (i:Int)=n):(i8_.cells l i).setIfInBounds n.toNat (.bool true)=i8_.cells l (i+1):=by
  apply Array.ext_getElem?
  intro q
  by_cases hq:q<12
  · rw [i8_.cells_get l (i+1) q hq,i8_.met_succ,hn,Array.getElem?_setIfInBounds]
    by_cases e:n.toNat=q
    · rw [if_pos e,if_pos (by simp [i8_.cells];omega),dT (by omega),Bool.or_true]
    rw [if_neg e,i8_.cells_get l i q hq,dF (by omega),Bool.or_false]
  have h1 : ∀ i,(i8_.cells l i).size=12:=fun i=>by simp [i8_.cells]
  rw [Array.getElem?_eq_none (by rw [Array.size_setIfInBounds,h1];omega),Array.getElem?_eq_none (by rw [h1];omega)]
theorem i8_.val_bad (l:List Int) (i:Int) (h0:0≤i) (h1:i<l.length) (h : ¬ (0≤rd l i∧rd l i<l.length ∧ ∀ k:Nat,(k:Int)<i→rd l (k:Int)≠rd l i)):i8_.val l=false:=by
  unfold i8_.val
  refine dF (fun⟨_,hf⟩=>h ?_)
  have:=hf i.toNat (by omega)
  rw [Int.toNat_of_nonneg h0] at this
  exact⟨this.1.1,this.1.2,fun k hk=>this.2 k (by omega)⟩
theorem i8_.wv_long (A0:Option Addr) (c0:Nat) (l0:List Int) (w:World) (aa:Kd.C (Kd.int .i64) w A0 l0.length l0) (ab:l0.length≤c0) (ac:1≤l0.length) (ae:l0.length≤12) :
    Calls Try.prog 47 #[.slice A0 l0.length c0] w fun e w'=>e = .returned (.bool (i8_.val l0))∧Below w.heap.size w w':=by
    have af:=A0_ aa;have ag:=A0_ ab;clear aa ab
    have b0:decide ((l0.length:Int)<1)=false:=dF (by omega)
    have b1:decide (12<(l0.length:Int))=false:=dF (by omega)
    have HL:=A0_ (And.intro ac ae)
    clear ac ae
    have HN:Aside0 (∀ i,(i8_.cells l0 i).size=12):=⟨fun i=>by simp [i8_.cells]⟩
    have HZ:Aside0 (i8_.cells l0 0 = #[.bool false,.bool false,.bool false,.bool false,.bool false,.bool false,.bool false,.bool false,.bool false,.bool false,.bool false,.bool false]):=⟨rfl⟩
    go_enter Try.func47,Try.ntmps47
    go_wp2
    go_loopw [17] (fun v17 wr => ∃ (i:Int),v17 = .int .i64 i∧Aside0 (0≤i∧i≤(l0.length:Int))∧Aside0 (i8_.fine l0 i.toNat)∧(∃ m,wr=(w.alloc (.cells (i8_.cells l0 i.toNat) 80)).drewN m)) (fun i _=>l0.length - (intOf i).toNat)
    case atStart=>exact⟨0,rfl,⟨by omega⟩,⟨fun j hj=>absurd hj (Nat.not_lt_zero j)⟩,0,by rw [show(0:Int).toNat=0 from rfl,HZ.out];rfl⟩
    case round =>
      obtain⟨i,rfl,HI,HF,m,rfl⟩:=hrel;clear b0 b1
      have HB:Aside0 (Below w.heap.size w ((w.alloc (.cells (i8_.cells l0 i.toNat) 80)).drewN m)):=⟨by exact bN ((Below.refl _ _).alloc (Nat.le_refl _) _) _⟩
      by_cases hlt:i<(l0.length:Int)
      · have hc:decide (i<(l0.length:Int))=true:=dT hlt
        obtain⟨ad',e1,hx⟩:=tI af.out i HI.out.1 hlt
        cases e1
        replace hx:=(HB.out.cell (wL w _ hx)).trans hx
        have p1:=eq_true HI.out.1;have p2:=eq_true hlt;have HT:=A0_ hlt;clear hlt
        obtain⟨n,hn⟩ : ∃ n,n=rd l0 i:=⟨_,rfl⟩
        rw [← hn] at hx
        have HNN:=A0_ hn;clear hn
        by_cases c1:n<0
        · have d1:decide (n<0)=true:=dT c1
          clear c1
          have HV:Aside0 (i8_.val l0=false):=⟨i8_.val_bad l0 i HI.out.1 HT.out (fun h=>by have:=HNN.out;have:=oD d1;have:=h.1;omega)⟩
          go_wp2
          go_ret
          exact⟨by rw [HV.out];rfl,HB.out⟩
        have d1:decide (n<0)=false:=dF c1
        by_cases c2:n≥(l0.length:Int)
        · have d2:decide ((l0.length:Int)≤n)=true:=dT c2
          clear c1 c2
          have HV:Aside0 (i8_.val l0=false):=⟨i8_.val_bad l0 i HI.out.1 HT.out (fun h=>by have:=HNN.out;have:=oD d2;have:=h.2.1;omega)⟩
          go_wp2
          go_ret
          exact⟨by rw [HV.out];rfl,HB.out⟩
        have d2:decide ((l0.length:Int)≤n)=false:=dF c2
        have q1:=eq_true (show 0≤n by omega)
        have q2:=eq_true (show n<12 by have:=HL.out;omega)
        have HQ:=A0_ (show 0≤n∧n<12 by have:=HL.out;omega)
        clear c1 c2
        obtain⟨b,hb⟩ : ∃ b,b=i8_.met l0 i.toNat n.toNat:=⟨_,rfl⟩
        have HBB:=A0_ hb;clear hb
        have hy:((w.alloc (.cells (i8_.cells l0 i.toNat) 80)).drewN m).cell? ⟨w.heap.size,n.toNat,none⟩=some (.bool b):=by
          rw [HBB.out]
          have hc_:=i8_.cells_get l0 i.toNat n.toNat (by have:=HQ.out;omega)
          show World.cell? (w.alloc (.cells (i8_.cells l0 i.toNat) 80)) ⟨w.heap.size,n.toNat,none⟩=_
          simp only [World.cell?,World.alloc,Array.getElem?_push_size,Option.isSome_none]
          exact hc_
        cases b with
        | true =>
          have HV:Aside0 (i8_.val l0=false):=⟨i8_.val_bad l0 i HI.out.1 HT.out (fun h=>by
            obtain⟨k,hk,e⟩:=i8_.met_iff.1 HBB.out.symm
            have:=HQ.out
            have:=HNN.out
            exact h.2.2 k (by omega) (by omega))⟩
          go_wp2
          go_ret
          exact⟨by rw [HV.out];rfl,HB.out⟩
        | false =>
          have HI2:=A0_ (show(i+1).toNat=i.toNat+1 by have:=HI.out;omega)
          have HW:=A0_ (show wrap64 (i+1)=i+1 by have:=HI.out;have:=HL.out;have:=HT.out;unfold wrap64;omega)
          have HF2:Aside0 (i8_.fine l0 (i.toNat+1)):=⟨fun j hj=>by
            by_cases e:j=i.toNat
            · subst e
              rw [Int.toNat_of_nonneg HI.out.1,← HNN.out]
              refine⟨⟨HQ.out.1,by have:=of_decide_eq_false d2;omega⟩,fun k hk e => ?_⟩
              have:=HBB.out
              rw [i8_.met_iff.2 ⟨k,hk,by rw [e];have:=HQ.out;omega⟩] at this
              cases this
            exact HF.out j (by omega)⟩
          have HS:=A0_ (i8_.cells_set l0 i.toNat n HQ.out.1 HQ.out.2 (by rw [Int.toNat_of_nonneg HI.out.1,HNN.out]))
          go_wp2
          go_roundw
          case rel=>exact⟨i+1,by rw [HW.out],⟨by have:=HI.out;have:=HT.out;omega⟩,⟨by rw [HI2.out];exact HF2.out⟩,m,by
            rw [HI2.out,← HS.out]
            show((w.alloc (.cells (i8_.cells l0 i.toNat) 80)).setCell ⟨w.heap.size,n.toNat,none⟩ (.bool true)).drewN m=_
            rw [World.setCell_alloc_at _ _ _ _ _ rfl]⟩
          case measure=>simp only [intOf,HW.out];have:=HI.out;have:=HT.out;omega
      have hc:decide (i<(l0.length:Int))=false:=dF hlt
      have HV:Aside0 (i8_.val l0=true):=⟨by
        have e:i.toNat=l0.length:=by have:=HI.out;omega
        have hF:=HF.out;rw [e] at hF
        exact dT ⟨HL.out,hF⟩⟩
      clear hlt
      go_wp2
      go_ret
      exact⟨by rw [HV.out];rfl,HB.out⟩
theorem i8_.calls (A0:Option Addr) (c0:Nat) (l0:List Int) (r:Bool) (w:World) (aa:Kd.C (Kd.int .i64) w A0 l0.length l0) (ab:l0.length≤c0) (h:i8_.f l0=some r) :
    Calls Try.prog 47 #[.slice A0 l0.length c0] w fun e w'=>e = .returned (.bool r)∧Below w.heap.size w w':=by
  obtain rfl:=sI h;clear h
  by_cases h1:1≤l0.length
  · by_cases h2:l0.length≤12
    · exact i8_.wv_long A0 c0 l0 w aa ab h1 h2
    have HV:Aside0 (i8_.val l0=false):=⟨dF (fun k=>h2 k.1.2)⟩
    have b0:decide ((l0.length:Int)<1)=false:=dF (by omega)
    have b1:decide (12<(l0.length:Int))=true:=dT (by omega)
    clear h1 h2 aa ab
    go_enter Try.func47,Try.ntmps47
    go_wp2
    go_ret
    exact⟨by rw [HV.out];rfl,(Below.refl _ _).alloc (Nat.le_refl _) _⟩
  have HV:Aside0 (i8_.val l0=false):=⟨dF (fun k=>h1 k.1.1)⟩
  have b0:decide ((l0.length:Int)<1)=true:=dT (by omega)
  clear h1 aa ab
  go_enter Try.func47,Try.ntmps47
  go_wp2
  go_ret
  exact⟨by rw [HV.out];rfl,(Below.refl _ _).alloc (Nat.le_refl _) _⟩
def su_.go (l:List Int) (m:Int):Nat→Int
  | 0=>m
  | i+1=>if su_.go l m i<rd l (i:Int) then rd l (i:Int) else su_.go l m i
/-- The greatest of the first i numbers; the first one for i = 0. -/
def su_.up (l:List Int) (i:Nat):Int:=su_.go l (rd l 0) i
def su_.f (l0:List Int):Option Int:=if 0<l0.length then some (su_.up l0 l0.length) else none
theorem su_.calls (A0:Option Addr) (c0:Nat) (l0:List Int) (r:Int) (w:World) (ab:Kd.C (Kd.int .i64) w A0 l0.length l0) (ac:l0.length≤c0) (h:su_.f l0=some r) :
    Calls Try.prog 99 #[.slice A0 l0.length c0] w fun e w'=>e = .returned (.int .i64 r)∧Drawn0 w w':=by
  unfold su_.f at h
  by_cases hl:0<l0.length
  · rw [if_pos hl] at h
    obtain rfl:=sI h;clear h;have aa:=A0_ ab;have ag:=A0_ ac;clear ab ac
    have b0:decide (l0.length<1)=false:=dF (by omega)
    have b1:decide ((l0.length:Int)<1)=false:=dF (by omega)
    obtain⟨ad,e0,ae⟩:=tI aa.out 0 (by omega) (by omega)
    cases e0
    have af:w.cell? ad=some (.int .i64 (rd l0 0)):=by cases ad;exact ae
    clear ae
    have p0:(0:Int)<(l0.length:Int):=by omega
    have HM:=A0_ (show su_.up l0 1=rd l0 0 by show(if rd l0 0<rd l0 ((0:Nat):Int) then rd l0 ((0:Nat):Int) else rd l0 0)=rd l0 0;split <;> rfl)
    have HL:=A0_ hl
    go_enter Try.func99,Try.ntmps99
    go_wp2
    go_loopw [3,4] (fun v3 v4 wr => ∃ (i:Int),v3 = .int .i64 (su_.up l0 i.toNat)∧v4 = .int .i64 i∧Aside0 (1≤i∧i≤(l0.length:Int))∧Drawn0 w wr) (fun _ i _=>l0.length - (intOf i).toNat)
    case atStart=>exact⟨1,by rw [show(1:Int).toNat=1 from rfl,HM.out],rfl,⟨by have:=HL.out;omega⟩,by repeat(first|exact Drawn0.refl _|apply Drawn0.step)⟩
    case round =>
      obtain⟨i,rfl,rfl,HI,⟨m,rfl⟩⟩:=hrel;clear af p0 b0 b1
      by_cases hlt:i<(l0.length:Int)
      · have hI:=HI.out
        have hc:decide (i<(l0.length:Int))=true:=dT hlt
        obtain⟨ad',e1,hx⟩:=tI aa.out i (by omega) hlt
        cases e1
        have p:0≤i:=by omega
        have HS:=A0_ (show su_.up l0 (i+1).toNat=if su_.up l0 i.toNat<rd l0 i then rd l0 i else su_.up l0 i.toNat by
          rw [show(i+1).toNat=i.toNat+1 by omega]
          show(if su_.up l0 i.toNat<rd l0 ((i.toNat:Nat):Int) then rd l0 ((i.toNat:Nat):Int) else su_.up l0 i.toNat)=_
          rw [Int.toNat_of_nonneg p])
        have HT:=A0_ hlt;clear hI;have p1:=eq_true p;have p2:=eq_true hlt;clear p hlt
        have HW:=A0_ (show wrap64 (i+1)=i+1 by have:=HI.out;have:=HT.out;have:=aa.out.2.1;unfold wrap64;omega)
        go_wp2
        go_roundw
        case rel=>exact⟨i+1,by rw [HS.out],by rw [HW.out],⟨by have:=HI.out;have:=HT.out;omega⟩,by repeat(first|exact Drawn0.refl _|apply Drawn0.step)⟩
        case measure=>simp only [intOf,HW.out];have:=HI.out;have:=HT.out;omega
      have hc:decide (i<(l0.length:Int))=false:=dF hlt
      have HE:=A0_ (show i=(l0.length:Int) by have:=HI.out;omega)
      clear hlt
      go_wp2
      go_ret
      exact⟨by rw [HE.out];rfl,by repeat(first|exact Drawn0.refl _|apply Drawn0.step)⟩
  rw [if_neg hl] at h;cases h
def in_.l0:Nat→List Int→Int→Int→Option (List Int)
  | 0,_,_,_=>none
  | k+1,x3,x8,x9=>if x9<x8 then (if 0≤x9 then (if x9<(x3.length:Int) then (in_.l0 k (x3.set (x9:Int).toNat x9) x8 (wrap64 (x9+1))) else (none)) else (none)) else (some x3)
def in_.f (k:Nat) (a0:Int):Option (List Int):=if 0≤a0 then (if (a0:Int).toNat≤35184372088832 then ((some (List.replicate (a0:Int).toNat 0:List Int)).bind fun aa=>(in_.l0 k aa (aa.length:Int) 0)) else (none)) else (none)
theorem in_.calls (k:Nat) (a0:Int) (r:List Int) (w:World) (h:in_.f k a0=some r) :
    Calls Try.prog 65 #[.int .i64 a0] w fun e w' => ∃ v0_:Value,e = .returned (v0_)∧Kd.R (Kd.int .i64) 3 w' w.heap.size (fun _=>True) v0_ r∧Below w.heap.size w w':=by
 have HB:=A0_ (Below.refl w.heap.size w)
 have H:(if 0≤a0 then (if (a0:Int).toNat≤35184372088832 then ((some (List.replicate (a0:Int).toNat 0:List Int)).bind fun ab=>(in_.l0 k ab (ab.length:Int) 0)) else (none)) else (none))=some r:=h
 clear h
 have c2:=zpc H;replace H:=zph H
 have ax:=eq_true c2;have ay:=dT c2;clear c2
 have c3:=zpc H;replace H:=zph H
 have az:=eq_true c3;have aA:=dT c3;clear c3
 obtain⟨ab,ag⟩ : ∃ y_:List Int,y_=(List.replicate (a0:Int).toNat 0):=⟨_,rfl⟩
 replace H:(in_.l0 k ab (ab.length:Int) 0)=some r:=zH ag H
 have am:=A0_ ag;clear ag;have H':=A0_ H;clear H
 go_enter Try.func65,Try.ntmps65
 go_wp2_with (first|((with_reducible refine gD (N:=6) rfl ?_);refine Kd.R_make (Kd.int .i64) _ 3 rfl (N:=6) rfl 23 _ _ rfl a0 rfl rfl Try.underlying23 (.int .i64 0) 8 info3 rfl (by decide) (by omega) 0 (ok:=fun _=>True) (okp:=fun _=>True) rfl (fun _ hk=>hk) trivial (zd) (Nat.le_trans (Nat.mul_le_mul_right _ (zd:a0.toNat≤35184372088832)) (by omega)) (Below.refl _ _) (Nat.le_refl _) ?_;intro aI w4 ai hb hg_ hnew_;clear hg_ hnew_;(first|rw [← am.out] at ai|(simp only [Int.reduceToNat] at ai;rw [← am.out] at ai));have an:=A0_ (rL ai (bZ (zB_ HB)));replace HB:=zB HB hb;clear hb ai;obtain⟨aD,av,aE⟩:=rS an.out;subst aE))
 go_loopg [9] k (fun kq v9 w' => ∃ (af:List Int) (aa:Int),v9 = .int .i64 aa∧Aside0 (in_.l0 kq af (ab.length:Int) aa=some r)∧Aside0 (kq≤k)∧Aside0 (Kd.R (Kd.int .i64) 3 w' w.heap.size (fun _=>True) (.slice aD ab.length av) af)∧Aside0 (Below w.heap.size w w'))
 case atStart=>exact⟨(ab),(0),zt,H',⟨Nat.le_refl _⟩,⟨zR_ an⟩,⟨zB_ HB⟩⟩
 case round =>
  clear H';(try clear c2);(try clear ax);(try clear ay);(try clear c3);(try clear az);(try clear aA);obtain⟨af,aa,rfl,HA,aw,ae,HB⟩:=hrel;have ac:=(rR ae.out).1;rw [ac] at ae;(try simp only [ac])
  cases gk with
  | zero=>exact absurd HA.out (by simp [in_.l0])
  | succ k1 =>
   have H:=HA.out;clear HA;simp only [in_.l0] at H
   by_cases c7:aa<(ab.length:Int)
   ·rw [if_pos c7] at H
    have aj:=dT c7;(try simp only [ac] at aj);clear c7
    have c8:=zpc H;replace H:=zph H
    have aJ:=dT c8;clear c8
    have c9:=zpc H;replace H:=zph H
    have aC:=dT c9;(try simp only [ac] at aC);clear c9
    obtain⟨ak,ah⟩ : ∃ y_:List Int,y_=(af.set (aa:Int).toNat aa):=⟨_,rfl⟩
    replace H:(in_.l0 k1 ak (ab.length:Int) (wrap64 (aa+1)))=some r:=zH ah H
    have au:=A0_ ah;clear ah;have H':=A0_ H;clear H
    have ao:0≤(aa:Int):=zd
    have ap:(aa:Int)<((af.length:Int):Int):=zd
    obtain⟨al,aK,aq,ar,gl10,cl10,HG10⟩:=Kd.R_form ae.out (by omega)
    (first|cases aq|(injection aq with ea_ en_ ec_;(first|subst ea_|(injection ea_ with ea_;subst ea_));subst ec_;clear en_))
    have GB10:=A0_ ar;have GG10:=A0_ HG10;clear ar gl10 HG10
    obtain⟨aG,aH⟩:=Kd.R_celln 0 ae.out (aa:Int) ao ap
    replace ao:=eq_true ao;replace ap:=eq_true ap
    have HP11:=Kd.R_putg ae.out (aa:Int) aa
    go_wp2_with (first|((with_reducible refine gS (t:=3) (p:=15) rfl ?_);refine store_event (t:=3) (p:=15) (v := ?vo_w12) (w1:=(wr.setCell ⟨al,(aa:Int).toNat,none⟩ (.int .i64 aa))) ?hg ?ho ?hn ?hr ?_;(case ho=>rfl);(case hg=>rfl);(case hn=>rfl);(case hr=>first|(go_simp;done)|(go_simp;rfl));intro w12 hw;have hg:wr.grownBy w12 (some al):=(by rw [hw];exact HP11.2);have hp_:Kd.R (Kd.int .i64) 3 w12 w.heap.size (fun _=>True) (.slice (some ⟨al,0,none⟩) af.length av) ak:=(by rw [hw,au.out];exact HP11.1);clear HP11;replace ae:=A0_ (hp_);replace HB:=A0_ ((by rw [hw];exact bS (HB.out) GB10.out:Below w.heap.size w w12));clear hg hw hp_))
    (try simp only [← ac])
    go_roundg k1
    case measure=>have:=aw.out;omega
    case rel=>exact⟨(ak),(wrap64 (aa+1)),zt,H',⟨by have:=aw.out;omega⟩,⟨by(try simp only [ac]);(with_reducible repeat(first|apply rA|apply rN|apply rD));exact ae.out⟩,⟨zB_ HB⟩⟩
   rw [if_neg c7] at H;have aj:=dF c7;(try simp only [ac] at aj);clear c7;obtain rfl:=sI H
   go_wp2
   go_ret
   exact⟨_,by first|rfl|(simp [*] <;> rfl),zR_ ae,zB_ HB⟩
mutual
def il_.l0:Nat→List (List Int)→List Int→Bool→Option (List Int)
  | 0,_,_,_=>none
  | k+1,x0,x3,x4=>if x4=true then (il_.l1 k x0 x3 false x0 (x0.length:Int) 0) else (some x3)
def il_.l1:Nat→List (List Int)→List Int→Bool→List (List Int)→Int→Int→Option (List Int)
  | 0,_,_,_,_,_,_=>none
  | k+1,x0,x3,x4,ab,ac,aa=>if aa<ac then (if 0≤aa then (if aa<(ab.length:Int) then (il_.l2 k x0 x3 x4 ab ac aa (rd_L1 ab aa) ((rd_L1 ab aa).length:Int) 0) else (none)) else (none)) else (il_.l0 k x0 x3 x4)
def il_.l2:Nat→List (List Int)→List Int→Bool→List (List Int)→Int→Int→List Int→Int→Int→Option (List Int)
  | 0,_,_,_,_,_,_,_,_,_=>none
  | k+1,x0,x3,x4,ac,ae,af,ab,ag,aa=>if aa<ag then (if 0≤aa then (if aa<(ab.length:Int) then (if aa<(x3.length:Int) then (if 0≤(rd ab aa) then (if (rd ab aa)<(x3.length:Int) then (if (rd x3 aa)=(mn (rd x3 aa) (rd x3 (rd ab aa))) then (if (rd x3 (rd ab aa))=(mn (rd x3 aa) (rd x3 (rd ab aa))) then (il_.l2 k x0 x3 x4 ac ae af ab ag (wrap64 (aa+1))) else (il_.l2 k x0 ((x3.set (aa:Int).toNat (mn (rd x3 aa) (rd x3 (rd ab aa)))).set ((rd ab aa):Int).toNat (mn (rd x3 aa) (rd x3 (rd ab aa)))) true ac ae af ab ag (wrap64 (aa+1)))) else (il_.l2 k x0 ((x3.set (aa:Int).toNat (mn (rd x3 aa) (rd x3 (rd ab aa)))).set ((rd ab aa):Int).toNat (mn (rd x3 aa) (rd x3 (rd ab aa)))) true ac ae af ab ag (wrap64 (aa+1)))) else (none)) else (none)) else (none)) else (none)) else (none)) else (il_.l1 k x0 x3 x4 ac ae (wrap64 (af+1)))
end
def il_.f (k:Nat) (l0:List (List Int)):Option (List Int):=if 0<(l0.length:Int) then ((in_.f k ((rd_L1 l0 0).length:Int)).bind fun aa=>(il_.l0 k l0 aa true)) else (none)
theorem il_.calls (k:Nat) (A0:Option Addr) (c0:Nat) (l0:List (List Int)) (r:List Int) (w:World) (cc:Kd.C (Kd.slice 3 (Kd.int .i64)) w A0 l0.length l0) (cd:l0.length≤c0) (h:il_.f k l0=some r) :
    Calls Try.prog 100 #[.slice A0 l0.length c0] w fun e w' => ∃ v0_:Value,e = .returned (v0_)∧Kd.R (Kd.int .i64) 3 w' w.heap.size (fun _=>True) v0_ r∧Below w.heap.size w w':=by
 have ce:=A0_ cc;have cP:=A0_ cd;clear cc cd
 have HB:=A0_ (Below.refl w.heap.size w)
 have H:(if 0<(l0.length:Int) then ((in_.f k ((rd_L1 l0 0).length:Int)).bind fun aZ=>(il_.l0 k l0 aZ true)) else (none))=some r:=h
 clear h
 have c2:=zpc H;replace H:=zph H
 have bU:=dT c2
 have bV:decide (0<l0.length)=true:=dT (by omega)
 clear c2;obtain⟨aZ,A3,H⟩:=zbind H;have H':=A0_ H;clear H
 have a4:0≤(0:Int):=(by omega)
 have a5:0<(l0.length:Int):=zd
 obtain⟨b6,cw,cx,ck,av,bp,bq⟩:=at_L1 ce.out 0 a4 a5
 cases ck
 have qi105:(0<l0.length)=True:=eq_true (by omega)
 (try rw [show((0:Int)).toNat=0 from rfl] at av)
 (try rw [Addr.add_zero'] at av)
 have ct:=A0_ bq;have cu:=A0_ bp;clear bq bp;replace a4:=eq_true a4;replace a5:=eq_true a5
 go_enter Try.func100,Try.ntmps100
 go_wp2_with (first|(go_at_call 65;(with_reducible refine(in_.calls k ((rd_L1 l0 0).length:Int) aZ _ A3.out).mono ?_);rintro e w4 ⟨bc,rfl,ba,hb⟩;have bw:=A0_ (rL ba (bZ (zB_ HB)));replace HB:=zB HB hb;(try clear hb);(try clear ba)))
 repeat(go_quiet (first|(go_at_call 65;(with_reducible refine(in_.calls k ((rd_L1 l0 0).length:Int) aZ _ A3.out).mono ?_);rintro e w4 ⟨bc,rfl,ba,hb⟩;have bw:=A0_ (rL ba (bZ (zB_ HB)));replace HB:=zB HB hb;(try clear hb);(try clear ba)));try go_wp2_with (first|(go_at_call 65;(with_reducible refine(in_.calls k ((rd_L1 l0 0).length:Int) aZ _ A3.out).mono ?_);rintro e w4 ⟨bc,rfl,ba,hb⟩;have n0_:=A0_ (rL ba (bZ (zB_ HB)));have n1_:=zB HB hb;clear HB;have bw:=n0_;have HB:=n1_;clear n0_ n1_;(try clear hb);(try clear ba))))
 go_loopg [4] k (fun kq v4 w' => ∃ (bx:List Int) (bz:Bool),v4 = .bool bz∧Aside0 (il_.l0 kq l0 bx bz=some r)∧Aside0 (kq≤k)∧Aside0 (Kd.R (Kd.int .i64) 3 w' w.heap.size (fun _=>True) bc bx)∧Aside0 (Below w.heap.size w w'))
 case atStart=>exact⟨(aZ),(true),zt,H',⟨Nat.le_refl _⟩,⟨zR_ bw⟩,⟨zB_ HB⟩⟩
 case round =>
  clear H';(try clear c2);(try clear bU);(try clear bV);(try clear av);(try clear a4);(try clear a5);obtain⟨bx,bz,rfl,HA,aK,ac,HB⟩:=hrel
  cases gk with
  | zero=>exact absurd HA.out (by simp [il_.l0])
  | succ k1 =>
   have H:=HA.out;clear HA;simp only [il_.l0] at H
   by_cases c5:bz=true
   ·subst c5
    rw [if_pos rfl] at H;have H':=A0_ H;clear H
    go_wp2
    repeat(go_quiet (fail);try go_wp2)
    go_loopg [4,18] k1 (fun kq v4 v18 w' => ∃ (bd:List Int) (be:Bool) (ab:Int),v4 = .bool be∧v18 = .int .i64 ab∧Aside0 (il_.l1 kq l0 bd be l0 (l0.length:Int) ab=some r)∧Aside0 (kq≤k1)∧Aside0 (Kd.R (Kd.int .i64) 3 w' w.heap.size (fun _=>True) bc bd)∧Aside0 (Below w.heap.size w w'))
    case atStart=>exact⟨(bx),(false),(0),zt,zt,H',⟨Nat.le_refl _⟩,⟨zR_ ac⟩,⟨zB_ HB⟩⟩
    case round =>
     clear H';(try clear c2);(try clear bU);(try clear bV);(try clear c5);(try clear av);(try clear a4);(try clear a5);obtain⟨bd,be,ab,rfl,rfl,HA,aM,ac,HB⟩:=hrel
     cases gk with
     | zero=>exact absurd HA.out (by simp [il_.l1])
     | succ k2 =>
      have H:=HA.out;clear HA;simp only [il_.l1] at H
      by_cases c6:ab<(l0.length:Int)
      ·rw [if_pos c6] at H
       have bY:=dT c6;clear c6
       have c7:=zpc H;replace H:=zph H
       have cl:=dT c7;clear c7
       have c8:=zpc H;replace H:=zph H
       have cm:=dT c8;clear c8;have H':=A0_ H;clear H
       have bB:0≤(ab:Int):=zd
       have bC:ab<(l0.length:Int):=zd
       obtain⟨b7,cy,cz,cn,aG,br,bu⟩:=at_L1 ce.out ab bB bC
       obtain rfl:b6=b7:=(by injection cn)
       try replace aG:=(HB.out.cell (wL w _ aG)).trans aG
       have a6:=A0_ bu;have cv:=A0_ br;clear bu br;replace bB:=eq_true bB;replace bC:=eq_true bC
       go_wp2
       repeat(go_quiet (fail);try go_wp2)
       go_loopg [4,24] k2 (fun kq v4 v24 w' => ∃ (ae:List Int) (a7:Bool) (aa:Int),v4 = .bool a7∧v24 = .int .i64 aa∧Aside0 (il_.l2 kq l0 ae a7 l0 (l0.length:Int) ab (rd_L1 l0 ab) ((rd_L1 l0 ab).length:Int) aa=some r)∧Aside0 (kq≤k2)∧Aside0 (Kd.R (Kd.int .i64) 3 w' w.heap.size (fun _=>True) bc ae)∧Aside0 (Below w.heap.size w w'))
       case atStart=>exact⟨(bd),(be),(0),zt,zt,H',⟨Nat.le_refl _⟩,⟨zR_ ac⟩,⟨zB_ HB⟩⟩
       case round =>
        clear H';(try clear c2);(try clear bU);(try clear bV);(try clear c5);(try clear c6);(try clear bY);(try clear c7);(try clear cl);(try clear c8);(try clear cm);(try clear av);(try clear aG);(try clear a4);(try clear bB);(try clear a5);(try clear bC);obtain⟨ae,a7,aa,rfl,rfl,HA,bb,ac,HB⟩:=hrel
        cases gk with
        | zero=>exact absurd HA.out (by simp [il_.l2])
        | succ k3 =>
         have H:=HA.out;clear HA;simp only [il_.l2] at H
         by_cases c9:aa<((rd_L1 l0 ab).length:Int)
         ·rw [if_pos c9] at H
          have co:=dT c9;clear c9
          have cf:=zpc H;replace H:=zph H
          have cC:=dT cf;clear cf
          have cg:=zpc H;replace H:=zph H
          have cE:=dT cg;clear cg
          have ch:=zpc H;replace H:=zph H
          have cF:=dT ch;clear ch
          have ci:=zpc H;replace H:=zph H
          have cG:=dT ci;clear ci
          have cj:=zpc H;replace H:=zph H
          have cH:=dT cj;clear cj
          obtain⟨af,ah⟩ : ∃ j_:Int,(mn (rd ae aa) (rd ae (rd (rd_L1 l0 ab) aa)))=j_:=⟨_,rfl⟩
          replace H:(if (rd ae aa)=(af) then (if (rd ae (rd (rd_L1 l0 ab) aa))=(af) then (il_.l2 k3 l0 ae a7 l0 (l0.length:Int) ab (rd_L1 l0 ab) ((rd_L1 l0 ab).length:Int) (wrap64 (aa+1))) else (il_.l2 k3 l0 ((ae.set (aa:Int).toNat (af)).set ((rd (rd_L1 l0 ab) aa):Int).toNat (af)) true l0 (l0.length:Int) ab (rd_L1 l0 ab) ((rd_L1 l0 ab).length:Int) (wrap64 (aa+1)))) else (il_.l2 k3 l0 ((ae.set (aa:Int).toNat (af)).set ((rd (rd_L1 l0 ab) aa):Int).toNat (af)) true l0 (l0.length:Int) ab (rd_L1 l0 ab) ((rd_L1 l0 ab).length:Int) (wrap64 (aa+1))))=some r:=by first|(rw [ah] at H;exact H)|(simp only [ah] at H ⊢;exact H)
          have hji15_:(if (rd ae (rd (rd_L1 l0 ab) aa))<(rd ae aa) then (rd ae (rd (rd_L1 l0 ab) aa)) else (rd ae aa))=af:=ah
          by_cases bf:(rd ae aa)=(af)
          ·rw [if_pos bf] at H
           have b8:((rd ae aa) == (af))=true:=beq_iff_eq.mpr bf
           have b9:((rd ae aa) != (af))=false:=bne_eq_false_iff_eq.mpr bf
           clear bf
           by_cases bg:(rd ae (rd (rd_L1 l0 ab) aa))=(af)
           ·rw [if_pos bg] at H
            have ca:((rd ae (rd (rd_L1 l0 ab) aa)) == (af))=true:=beq_iff_eq.mpr bg
            have cb:((rd ae (rd (rd_L1 l0 ab) aa)) != (af))=false:=bne_eq_false_iff_eq.mpr bg
            clear bg;have H':=A0_ H;clear H
            have al:0≤(aa:Int):=zd
            have am:aa<((rd_L1 l0 ab).length:Int):=zd
            obtain⟨bX,bh,ag⟩:=tI a6.out aa al am
            cases bh
            try replace ag:=(HB.out.cell (wL w _ ag)).trans ag
            replace al:=eq_true al;replace am:=eq_true am;obtain⟨cI,cJ,cp⟩:=rS ac.out;subst cp
            have an:0≤(aa:Int):=zd
            have ao:aa<(ae.length:Int):=zd
            obtain⟨ak,bi,aH⟩:=tI (rR ac.out).2.2 aa an ao
            cases bi
            replace an:=eq_true an;replace ao:=eq_true ao
            have ap:0≤((rd (rd_L1 l0 ab) aa):Int):=zd
            have aq:(rd (rd_L1 l0 ab) aa)<(ae.length:Int):=zd
            obtain⟨aT,bj,aI⟩:=tI (rR ac.out).2.2 (rd (rd_L1 l0 ab) aa) ap aq
            obtain rfl:ak=aT:=(by injection bj)
            replace ap:=eq_true ap;replace aq:=eq_true aq
            have ar:0≤(aa:Int):=zd
            have au:aa<(ae.length:Int):=zd
            obtain⟨aU,bk,aJ⟩:=tI (rR ac.out).2.2 aa ar au
            obtain rfl:ak=aU:=(by injection bk)
            replace ar:=eq_true ar;replace au:=eq_true au
            have aN:0≤((rd (rd_L1 l0 ab) aa):Int):=zd
            have aQ:(rd (rd_L1 l0 ab) aa)<(ae.length:Int):=zd
            obtain⟨bE,bW,bv⟩:=tI (rR ac.out).2.2 (rd (rd_L1 l0 ab) aa) aN aQ
            obtain rfl:ak=bE:=(by injection bW)
            replace aN:=eq_true aN;replace aQ:=eq_true aQ
            go_wp2
            repeat(go_quiet (fail);try go_wp2)
            go_roundg k3
            case measure=>have:=aK.out;have:=aM.out;have:=bb.out;omega
            case rel=>exact⟨(ae),(a7),(wrap64 (aa+1)),zt,zt,H',⟨by have:=aK.out;have:=aM.out;have:=bb.out;omega⟩,⟨zR_ ac⟩,⟨zB_ HB⟩⟩
           rw [if_neg bg] at H
           have ca:((rd ae (rd (rd_L1 l0 ab) aa)) == (af))=false:=beq_eq_false_iff_ne.mpr bg
           have cb:((rd ae (rd (rd_L1 l0 ab) aa)) != (af))=true:=bne_iff_ne.mpr bg
           obtain⟨bl,bF⟩ : ∃ y_:List Int,y_=(ae.set (aa:Int).toNat (af)):=⟨_,rfl⟩
           replace H:(il_.l2 k3 l0 (bl.set ((rd (rd_L1 l0 ab) aa):Int).toNat (af)) true l0 (l0.length:Int) ab (rd_L1 l0 ab) ((rd_L1 l0 ab).length:Int) (wrap64 (aa+1)))=some r:=zH bF H
           have bG:=A0_ bF;clear bF
           obtain⟨bm,bH⟩ : ∃ y_:List Int,y_=(bl.set ((rd (rd_L1 l0 ab) aa):Int).toNat (af)):=⟨_,rfl⟩
           replace H:(il_.l2 k3 l0 bm true l0 (l0.length:Int) ab (rd_L1 l0 ab) ((rd_L1 l0 ab).length:Int) (wrap64 (aa+1)))=some r:=zH bH H
           have bI:=A0_ bH;clear bH;have H':=A0_ H;clear H
           have al:0≤(aa:Int):=zd
           have am:aa<((rd_L1 l0 ab).length:Int):=zd
           obtain⟨bX,bh,ag⟩:=tI a6.out aa al am
           cases bh
           try replace ag:=(HB.out.cell (wL w _ ag)).trans ag
           replace al:=eq_true al;replace am:=eq_true am;obtain⟨cK,a8,cq⟩:=rS ac.out;subst cq
           have an:0≤(aa:Int):=zd
           have ao:aa<(ae.length:Int):=zd
           obtain⟨ak,bi,aH⟩:=tI (rR ac.out).2.2 aa an ao
           cases bi
           replace an:=eq_true an;replace ao:=eq_true ao
           have ap:0≤((rd (rd_L1 l0 ab) aa):Int):=zd
           have aq:(rd (rd_L1 l0 ab) aa)<(ae.length:Int):=zd
           obtain⟨aT,bj,aI⟩:=tI (rR ac.out).2.2 (rd (rd_L1 l0 ab) aa) ap aq
           obtain rfl:ak=aT:=(by injection bj)
           replace ap:=eq_true ap;replace aq:=eq_true aq
           have ar:0≤(aa:Int):=zd
           have au:aa<(ae.length:Int):=zd
           obtain⟨aU,bk,aJ⟩:=tI (rR ac.out).2.2 aa ar au
           obtain rfl:ak=aU:=(by injection bk)
           replace ar:=eq_true ar;replace au:=eq_true au
           have aN:0≤((rd (rd_L1 l0 ab) aa):Int):=zd
           have aQ:(rd (rd_L1 l0 ab) aa)<(ae.length:Int):=zd
           obtain⟨bE,bW,bv⟩:=tI (rR ac.out).2.2 (rd (rd_L1 l0 ab) aa) aN aQ
           obtain rfl:ak=bE:=(by injection bW)
           replace aN:=eq_true aN;replace aQ:=eq_true aQ
           have aV:0≤(aa:Int):=zd
           have aW:(aa:Int)<((ae.length:Int):Int):=zd
           obtain⟨ai,cL,b2,b3,gl19,cl19,HG19⟩:=Kd.R_form ac.out (by omega)
           (first|cases b2|(injection b2 with ea_ en_ ec_;(first|subst ea_|(injection ea_ with ea_;subst ea_));subst ec_;clear en_))
           have GB19:=A0_ b3;have GG19:=A0_ HG19;clear b3 gl19 HG19
           (first|simp only [add_plain] at aH|skip)
           (first|simp only [add_plain] at aI|skip)
           (first|simp only [add_plain] at aJ|skip)
           (first|simp only [add_plain] at bv|skip)
           obtain⟨aw,ax⟩:=Kd.R_celln 0 ac.out (aa:Int) aV aW
           replace aV:=eq_true aV;replace aW:=eq_true aW
           have HP22:=Kd.R_putg ac.out (aa:Int) af
           go_wp2_with (first|((with_reducible refine gS (t:=3) (p:=58) rfl ?_);(try(rw [drewN_self wr];generalize hq_:World.drewN wr _=wr;have n0_:=A0_ (Kd.R_at hq_ ac.out);have n1_:=A0_ (below_at hq_ HB.out);clear hq_ ac HB;have ac:=n0_;have HB:=n1_;clear n0_ n1_;(try(obtain⟨aw,ax⟩:=Kd.R_celln 0 ac.out (aa:Int) (of_eq_true aV) (of_eq_true aW)));(try(have HP22:=Kd.R_putg ac.out (aa:Int) af))));refine store_event (t:=3) (p:=58) (v := ?vo_w23) (w1:=(wr.setCell ⟨ai,(aa:Int).toNat,none⟩ (.int .i64 af))) ?hg ?ho ?hn ?hr ?_;(case ho=>rfl);(case hg=>rfl);(case hn=>rfl);(case hr=>first|(go_simp;done)|(go_simp;rfl)|(go_simp;congr 2;rw [← ah];unfold mn;omega));intro w23 hw;have hg:wr.grownBy w23 (some ai):=(by rw [hw];exact HP22.2);have hp_:Kd.R (Kd.int .i64) 3 w23 w.heap.size (fun _=>True) (.slice (some ⟨ai,0,none⟩) ae.length a8) bl:=(by rw [hw,bG.out];exact HP22.1);clear HP22;replace ac:=A0_ (hp_);replace HB:=A0_ ((by rw [hw];exact bS (HB.out) GB19.out:Below w.heap.size w w23));clear hg hw hp_;have aA:0≤((rd (rd_L1 l0 ab) aa):Int):=zd;have aC:((rd (rd_L1 l0 ab) aa):Int)<((ae.length:Int):Int):=zd;obtain⟨bO,bP⟩:=Kd.R_celln 0 ac.out ((rd (rd_L1 l0 ab) aa):Int) aA aC;replace aA:=eq_true aA;replace aC:=eq_true aC;obtain⟨hy24_,hz24_⟩:=Kd.R_celln 0 ac.out ((rd (rd_L1 l0 ab) aa):Int) (zd) (zd);have HP24:=Kd.R_putg ac.out ((rd (rd_L1 l0 ab) aa):Int) af)|((with_reducible refine gS (t:=3) (p:=59) rfl ?_);(try(rw [drewN_self w23];generalize hq_:World.drewN w23 _=w23;have n0_:=A0_ (Kd.R_at hq_ ac.out);have n1_:=A0_ (below_at hq_ HB.out);clear hq_ ac HB;have ac:=n0_;have HB:=n1_;clear n0_ n1_;(try(obtain⟨aw,ax⟩:=Kd.R_celln 0 ac.out (aa:Int) (of_eq_true aV) (of_eq_true aW)));(try(obtain⟨hy24_,hz24_⟩:=Kd.R_celln 0 ac.out ((rd (rd_L1 l0 ab) aa):Int) (zd) (zd)));(try(have HP24:=Kd.R_putg ac.out ((rd (rd_L1 l0 ab) aa):Int) af))));refine store_event (t:=3) (p:=59) (v := ?vo_w25) (w1:=(w23.setCell ⟨ai,((rd (rd_L1 l0 ab) aa):Int).toNat,none⟩ (.int .i64 af))) ?hg ?ho ?hn ?hr ?_;(case ho=>rfl);(case hg=>rfl);(case hn=>rfl);(case hr=>first|(go_simp;done)|(go_simp;rfl)|(go_simp;congr 2;rw [← ah];unfold mn;omega));intro w25 hw;have hg:w23.grownBy w25 (some ai):=(by rw [hw];exact HP24.2);have hp_:Kd.R (Kd.int .i64) 3 w25 w.heap.size (fun _=>True) (.slice (some ⟨ai,0,none⟩) ae.length a8) bm:=(by rw [hw,bI.out];exact HP24.1);clear HP24;replace ac:=A0_ (hp_);replace HB:=A0_ ((by rw [hw];exact bS (HB.out) GB19.out:Below w.heap.size w w25));clear hg hw hp_))
           repeat(go_quiet (first|((with_reducible refine gS (t:=3) (p:=58) rfl ?_);(try(rw [drewN_self wr];generalize hq_:World.drewN wr _=wr;have n0_:=A0_ (Kd.R_at hq_ ac.out);have n1_:=A0_ (below_at hq_ HB.out);clear hq_ ac HB;have ac:=n0_;have HB:=n1_;clear n0_ n1_;(try(obtain⟨aw,ax⟩:=Kd.R_celln 0 ac.out (aa:Int) (of_eq_true aV) (of_eq_true aW)));(try(have HP22:=Kd.R_putg ac.out (aa:Int) af))));refine store_event (t:=3) (p:=58) (v := ?vo_w23) (w1:=(wr.setCell ⟨ai,(aa:Int).toNat,none⟩ (.int .i64 af))) ?hg ?ho ?hn ?hr ?_;(case ho=>rfl);(case hg=>rfl);(case hn=>rfl);(case hr=>first|(go_simp;done)|(go_simp;rfl)|(go_simp;congr 2;rw [← ah];unfold mn;omega));intro w23 hw;have hg:wr.grownBy w23 (some ai):=(by rw [hw];exact HP22.2);have hp_:Kd.R (Kd.int .i64) 3 w23 w.heap.size (fun _=>True) (.slice (some ⟨ai,0,none⟩) ae.length a8) bl:=(by rw [hw,bG.out];exact HP22.1);clear HP22;replace ac:=A0_ (hp_);replace HB:=A0_ ((by rw [hw];exact bS (HB.out) GB19.out:Below w.heap.size w w23));clear hg hw hp_;have aA:0≤((rd (rd_L1 l0 ab) aa):Int):=zd;have aC:((rd (rd_L1 l0 ab) aa):Int)<((ae.length:Int):Int):=zd;obtain⟨bO,bP⟩:=Kd.R_celln 0 ac.out ((rd (rd_L1 l0 ab) aa):Int) aA aC;replace aA:=eq_true aA;replace aC:=eq_true aC;obtain⟨hy24_,hz24_⟩:=Kd.R_celln 0 ac.out ((rd (rd_L1 l0 ab) aa):Int) (zd) (zd);have HP24:=Kd.R_putg ac.out ((rd (rd_L1 l0 ab) aa):Int) af)|((with_reducible refine gS (t:=3) (p:=59) rfl ?_);(try(rw [drewN_self w23];generalize hq_:World.drewN w23 _=w23;have n0_:=A0_ (Kd.R_at hq_ ac.out);have n1_:=A0_ (below_at hq_ HB.out);clear hq_ ac HB;have ac:=n0_;have HB:=n1_;clear n0_ n1_;(try(obtain⟨aw,ax⟩:=Kd.R_celln 0 ac.out (aa:Int) (of_eq_true aV) (of_eq_true aW)));(try(obtain⟨hy24_,hz24_⟩:=Kd.R_celln 0 ac.out ((rd (rd_L1 l0 ab) aa):Int) (zd) (zd)));(try(have HP24:=Kd.R_putg ac.out ((rd (rd_L1 l0 ab) aa):Int) af))));refine store_event (t:=3) (p:=59) (v := ?vo_w25) (w1:=(w23.setCell ⟨ai,((rd (rd_L1 l0 ab) aa):Int).toNat,none⟩ (.int .i64 af))) ?hg ?ho ?hn ?hr ?_;(case ho=>rfl);(case hg=>rfl);(case hn=>rfl);(case hr=>first|(go_simp;done)|(go_simp;rfl)|(go_simp;congr 2;rw [← ah];unfold mn;omega));intro w25 hw;have hg:w23.grownBy w25 (some ai):=(by rw [hw];exact HP24.2);have hp_:Kd.R (Kd.int .i64) 3 w25 w.heap.size (fun _=>True) (.slice (some ⟨ai,0,none⟩) ae.length a8) bm:=(by rw [hw,bI.out];exact HP24.1);clear HP24;replace ac:=A0_ (hp_);replace HB:=A0_ ((by rw [hw];exact bS (HB.out) GB19.out:Below w.heap.size w w25));clear hg hw hp_));try go_wp2_with (first|((with_reducible refine gS (t:=3) (p:=58) rfl ?_);(try(rw [drewN_self wr];generalize hq_:World.drewN wr _=wr;have n0_:=A0_ (Kd.R_at hq_ ac.out);have n1_:=A0_ (below_at hq_ HB.out);clear hq_ ac HB;have ac:=n0_;have HB:=n1_;clear n0_ n1_;(try(obtain⟨aw,ax⟩:=Kd.R_celln 0 ac.out (aa:Int) (of_eq_true aV) (of_eq_true aW)));(try(have HP22:=Kd.R_putg ac.out (aa:Int) af))));refine store_event (t:=3) (p:=58) (v := ?vo_w23) (w1:=(wr.setCell ⟨ai,(aa:Int).toNat,none⟩ (.int .i64 af))) ?hg ?ho ?hn ?hr ?_;(case ho=>rfl);(case hg=>rfl);(case hn=>rfl);(case hr=>first|(go_simp;done)|(go_simp;rfl)|(go_simp;congr 2;rw [← ah];unfold mn;omega));intro w23 hw;have hg:wr.grownBy w23 (some ai):=(by rw [hw];exact HP22.2);have hp_:Kd.R (Kd.int .i64) 3 w23 w.heap.size (fun _=>True) (.slice (some ⟨ai,0,none⟩) ae.length a8) bl:=(by rw [hw,bG.out];exact HP22.1);clear HP22;have n0_:=A0_ (hp_);have n1_:=A0_ ((by rw [hw];exact bS (HB.out) GB19.out:Below w.heap.size w w23));clear ac HB;have ac:=n0_;have HB:=n1_;clear n0_ n1_ hg hw hp_;have aA:0≤((rd (rd_L1 l0 ab) aa):Int):=zd;have aC:((rd (rd_L1 l0 ab) aa):Int)<((ae.length:Int):Int):=zd;obtain⟨bO,bP⟩:=Kd.R_celln 0 ac.out ((rd (rd_L1 l0 ab) aa):Int) aA aC;replace aA:=eq_true aA;replace aC:=eq_true aC;obtain⟨hy24_,hz24_⟩:=Kd.R_celln 0 ac.out ((rd (rd_L1 l0 ab) aa):Int) (zd) (zd);have HP24:=Kd.R_putg ac.out ((rd (rd_L1 l0 ab) aa):Int) af)|((with_reducible refine gS (t:=3) (p:=59) rfl ?_);(try(rw [drewN_self w23];generalize hq_:World.drewN w23 _=w23;have n0_:=A0_ (Kd.R_at hq_ ac.out);have n1_:=A0_ (below_at hq_ HB.out);clear hq_ ac HB;have ac:=n0_;have HB:=n1_;clear n0_ n1_;(try(obtain⟨aw,ax⟩:=Kd.R_celln 0 ac.out (aa:Int) (of_eq_true aV) (of_eq_true aW)));(try(obtain⟨hy24_,hz24_⟩:=Kd.R_celln 0 ac.out ((rd (rd_L1 l0 ab) aa):Int) (zd) (zd)));(try(have HP24:=Kd.R_putg ac.out ((rd (rd_L1 l0 ab) aa):Int) af))));refine store_event (t:=3) (p:=59) (v := ?vo_w25) (w1:=(w23.setCell ⟨ai,((rd (rd_L1 l0 ab) aa):Int).toNat,none⟩ (.int .i64 af))) ?hg ?ho ?hn ?hr ?_;(case ho=>rfl);(case hg=>rfl);(case hn=>rfl);(case hr=>first|(go_simp;done)|(go_simp;rfl)|(go_simp;congr 2;rw [← ah];unfold mn;omega));intro w25 hw;have hg:w23.grownBy w25 (some ai):=(by rw [hw];exact HP24.2);have hp_:Kd.R (Kd.int .i64) 3 w25 w.heap.size (fun _=>True) (.slice (some ⟨ai,0,none⟩) ae.length a8) bm:=(by rw [hw,bI.out];exact HP24.1);clear HP24;have n0_:=A0_ (hp_);have n1_:=A0_ ((by rw [hw];exact bS (HB.out) GB19.out:Below w.heap.size w w25));clear ac HB;have ac:=n0_;have HB:=n1_;clear n0_ n1_ hg hw hp_)))
           go_roundg k3
           case measure=>have:=aK.out;have:=aM.out;have:=bb.out;omega
           case rel=>exact⟨(bm),(true),(wrap64 (aa+1)),zt,zt,H',⟨by have:=aK.out;have:=aM.out;have:=bb.out;omega⟩,⟨zR_ ac⟩,⟨zB_ HB⟩⟩
          rw [if_neg bf] at H
          have b8:((rd ae aa) == (af))=false:=beq_eq_false_iff_ne.mpr bf
          have b9:((rd ae aa) != (af))=true:=bne_iff_ne.mpr bf
          obtain⟨bn,bJ⟩ : ∃ y_:List Int,y_=(ae.set (aa:Int).toNat (af)):=⟨_,rfl⟩
          replace H:(il_.l2 k3 l0 (bn.set ((rd (rd_L1 l0 ab) aa):Int).toNat (af)) true l0 (l0.length:Int) ab (rd_L1 l0 ab) ((rd_L1 l0 ab).length:Int) (wrap64 (aa+1)))=some r:=zH bJ H
          have bK:=A0_ bJ;clear bJ
          obtain⟨bo,bL⟩ : ∃ y_:List Int,y_=(bn.set ((rd (rd_L1 l0 ab) aa):Int).toNat (af)):=⟨_,rfl⟩
          replace H:(il_.l2 k3 l0 bo true l0 (l0.length:Int) ab (rd_L1 l0 ab) ((rd_L1 l0 ab).length:Int) (wrap64 (aa+1)))=some r:=zH bL H
          have bM:=A0_ bL;clear bL;have H':=A0_ H;clear H
          have al:0≤(aa:Int):=zd
          have am:aa<((rd_L1 l0 ab).length:Int):=zd
          obtain⟨bX,bh,ag⟩:=tI a6.out aa al am
          cases bh
          try replace ag:=(HB.out.cell (wL w _ ag)).trans ag
          replace al:=eq_true al;replace am:=eq_true am;obtain⟨cM,a9,cr⟩:=rS ac.out;subst cr
          have an:0≤(aa:Int):=zd
          have ao:aa<(ae.length:Int):=zd
          obtain⟨ak,bi,aH⟩:=tI (rR ac.out).2.2 aa an ao
          cases bi
          replace an:=eq_true an;replace ao:=eq_true ao
          have ap:0≤((rd (rd_L1 l0 ab) aa):Int):=zd
          have aq:(rd (rd_L1 l0 ab) aa)<(ae.length:Int):=zd
          obtain⟨aT,bj,aI⟩:=tI (rR ac.out).2.2 (rd (rd_L1 l0 ab) aa) ap aq
          obtain rfl:ak=aT:=(by injection bj)
          replace ap:=eq_true ap;replace aq:=eq_true aq
          have ar:0≤(aa:Int):=zd
          have au:aa<(ae.length:Int):=zd
          obtain⟨aU,bk,aJ⟩:=tI (rR ac.out).2.2 aa ar au
          obtain rfl:ak=aU:=(by injection bk)
          replace ar:=eq_true ar;replace au:=eq_true au
          have aX:0≤(aa:Int):=zd
          have aY:(aa:Int)<((ae.length:Int):Int):=zd
          obtain⟨aj,cO,b4,b5,gl26,cl26,HG26⟩:=Kd.R_form ac.out (by omega)
          (first|cases b4|(injection b4 with ea_ en_ ec_;(first|subst ea_|(injection ea_ with ea_;subst ea_));subst ec_;clear en_))
          have GB26:=A0_ b5;have GG26:=A0_ HG26;clear b5 gl26 HG26
          (first|simp only [add_plain] at aH|skip)
          (first|simp only [add_plain] at aI|skip)
          (first|simp only [add_plain] at aJ|skip)
          obtain⟨ay,az⟩:=Kd.R_celln 0 ac.out (aa:Int) aX aY
          replace aX:=eq_true aX;replace aY:=eq_true aY
          have HP29:=Kd.R_putg ac.out (aa:Int) af
          go_wp2_with (first|((with_reducible refine gS (t:=3) (p:=58) rfl ?_);(try(rw [drewN_self wr];generalize hq_:World.drewN wr _=wr;have n0_:=A0_ (Kd.R_at hq_ ac.out);have n1_:=A0_ (below_at hq_ HB.out);clear hq_ ac HB;have ac:=n0_;have HB:=n1_;clear n0_ n1_;(try(obtain⟨ay,az⟩:=Kd.R_celln 0 ac.out (aa:Int) (of_eq_true aX) (of_eq_true aY)));(try(have HP29:=Kd.R_putg ac.out (aa:Int) af))));refine store_event (t:=3) (p:=58) (v := ?vo_w30) (w1:=(wr.setCell ⟨aj,(aa:Int).toNat,none⟩ (.int .i64 af))) ?hg ?ho ?hn ?hr ?_;(case ho=>rfl);(case hg=>rfl);(case hn=>rfl);(case hr=>first|(go_simp;done)|(go_simp;rfl)|(go_simp;congr 2;rw [← ah];unfold mn;omega));intro w30 hw;have hg:wr.grownBy w30 (some aj):=(by rw [hw];exact HP29.2);have hp_:Kd.R (Kd.int .i64) 3 w30 w.heap.size (fun _=>True) (.slice (some ⟨aj,0,none⟩) ae.length a9) bn:=(by rw [hw,bK.out];exact HP29.1);clear HP29;replace ac:=A0_ (hp_);replace HB:=A0_ ((by rw [hw];exact bS (HB.out) GB26.out:Below w.heap.size w w30));clear hg hw hp_;have aD:0≤((rd (rd_L1 l0 ab) aa):Int):=zd;have aE:((rd (rd_L1 l0 ab) aa):Int)<((ae.length:Int):Int):=zd;obtain⟨bQ,bR⟩:=Kd.R_celln 0 ac.out ((rd (rd_L1 l0 ab) aa):Int) aD aE;replace aD:=eq_true aD;replace aE:=eq_true aE;obtain⟨hy31_,hz31_⟩:=Kd.R_celln 0 ac.out ((rd (rd_L1 l0 ab) aa):Int) (zd) (zd);have HP31:=Kd.R_putg ac.out ((rd (rd_L1 l0 ab) aa):Int) af)|((with_reducible refine gS (t:=3) (p:=59) rfl ?_);(try(rw [drewN_self w30];generalize hq_:World.drewN w30 _=w30;have n0_:=A0_ (Kd.R_at hq_ ac.out);have n1_:=A0_ (below_at hq_ HB.out);clear hq_ ac HB;have ac:=n0_;have HB:=n1_;clear n0_ n1_;(try(obtain⟨ay,az⟩:=Kd.R_celln 0 ac.out (aa:Int) (of_eq_true aX) (of_eq_true aY)));(try(obtain⟨hy31_,hz31_⟩:=Kd.R_celln 0 ac.out ((rd (rd_L1 l0 ab) aa):Int) (zd) (zd)));(try(have HP31:=Kd.R_putg ac.out ((rd (rd_L1 l0 ab) aa):Int) af))));refine store_event (t:=3) (p:=59) (v := ?vo_w32) (w1:=(w30.setCell ⟨aj,((rd (rd_L1 l0 ab) aa):Int).toNat,none⟩ (.int .i64 af))) ?hg ?ho ?hn ?hr ?_;(case ho=>rfl);(case hg=>rfl);(case hn=>rfl);(case hr=>first|(go_simp;done)|(go_simp;rfl)|(go_simp;congr 2;rw [← ah];unfold mn;omega));intro w32 hw;have hg:w30.grownBy w32 (some aj):=(by rw [hw];exact HP31.2);have hp_:Kd.R (Kd.int .i64) 3 w32 w.heap.size (fun _=>True) (.slice (some ⟨aj,0,none⟩) ae.length a9) bo:=(by rw [hw,bM.out];exact HP31.1);clear HP31;replace ac:=A0_ (hp_);replace HB:=A0_ ((by rw [hw];exact bS (HB.out) GB26.out:Below w.heap.size w w32));clear hg hw hp_))
          repeat(go_quiet (first|((with_reducible refine gS (t:=3) (p:=58) rfl ?_);(try(rw [drewN_self wr];generalize hq_:World.drewN wr _=wr;have n0_:=A0_ (Kd.R_at hq_ ac.out);have n1_:=A0_ (below_at hq_ HB.out);clear hq_ ac HB;have ac:=n0_;have HB:=n1_;clear n0_ n1_;(try(obtain⟨ay,az⟩:=Kd.R_celln 0 ac.out (aa:Int) (of_eq_true aX) (of_eq_true aY)));(try(have HP29:=Kd.R_putg ac.out (aa:Int) af))));refine store_event (t:=3) (p:=58) (v := ?vo_w30) (w1:=(wr.setCell ⟨aj,(aa:Int).toNat,none⟩ (.int .i64 af))) ?hg ?ho ?hn ?hr ?_;(case ho=>rfl);(case hg=>rfl);(case hn=>rfl);(case hr=>first|(go_simp;done)|(go_simp;rfl)|(go_simp;congr 2;rw [← ah];unfold mn;omega));intro w30 hw;have hg:wr.grownBy w30 (some aj):=(by rw [hw];exact HP29.2);have hp_:Kd.R (Kd.int .i64) 3 w30 w.heap.size (fun _=>True) (.slice (some ⟨aj,0,none⟩) ae.length a9) bn:=(by rw [hw,bK.out];exact HP29.1);clear HP29;replace ac:=A0_ (hp_);replace HB:=A0_ ((by rw [hw];exact bS (HB.out) GB26.out:Below w.heap.size w w30));clear hg hw hp_;have aD:0≤((rd (rd_L1 l0 ab) aa):Int):=zd;have aE:((rd (rd_L1 l0 ab) aa):Int)<((ae.length:Int):Int):=zd;obtain⟨bQ,bR⟩:=Kd.R_celln 0 ac.out ((rd (rd_L1 l0 ab) aa):Int) aD aE;replace aD:=eq_true aD;replace aE:=eq_true aE;obtain⟨hy31_,hz31_⟩:=Kd.R_celln 0 ac.out ((rd (rd_L1 l0 ab) aa):Int) (zd) (zd);have HP31:=Kd.R_putg ac.out ((rd (rd_L1 l0 ab) aa):Int) af)|((with_reducible refine gS (t:=3) (p:=59) rfl ?_);(try(rw [drewN_self w30];generalize hq_:World.drewN w30 _=w30;have n0_:=A0_ (Kd.R_at hq_ ac.out);have n1_:=A0_ (below_at hq_ HB.out);clear hq_ ac HB;have ac:=n0_;have HB:=n1_;clear n0_ n1_;(try(obtain⟨ay,az⟩:=Kd.R_celln 0 ac.out (aa:Int) (of_eq_true aX) (of_eq_true aY)));(try(obtain⟨hy31_,hz31_⟩:=Kd.R_celln 0 ac.out ((rd (rd_L1 l0 ab) aa):Int) (zd) (zd)));(try(have HP31:=Kd.R_putg ac.out ((rd (rd_L1 l0 ab) aa):Int) af))));refine store_event (t:=3) (p:=59) (v := ?vo_w32) (w1:=(w30.setCell ⟨aj,((rd (rd_L1 l0 ab) aa):Int).toNat,none⟩ (.int .i64 af))) ?hg ?ho ?hn ?hr ?_;(case ho=>rfl);(case hg=>rfl);(case hn=>rfl);(case hr=>first|(go_simp;done)|(go_simp;rfl)|(go_simp;congr 2;rw [← ah];unfold mn;omega));intro w32 hw;have hg:w30.grownBy w32 (some aj):=(by rw [hw];exact HP31.2);have hp_:Kd.R (Kd.int .i64) 3 w32 w.heap.size (fun _=>True) (.slice (some ⟨aj,0,none⟩) ae.length a9) bo:=(by rw [hw,bM.out];exact HP31.1);clear HP31;replace ac:=A0_ (hp_);replace HB:=A0_ ((by rw [hw];exact bS (HB.out) GB26.out:Below w.heap.size w w32));clear hg hw hp_));try go_wp2_with (first|((with_reducible refine gS (t:=3) (p:=58) rfl ?_);(try(rw [drewN_self wr];generalize hq_:World.drewN wr _=wr;have n0_:=A0_ (Kd.R_at hq_ ac.out);have n1_:=A0_ (below_at hq_ HB.out);clear hq_ ac HB;have ac:=n0_;have HB:=n1_;clear n0_ n1_;(try(obtain⟨ay,az⟩:=Kd.R_celln 0 ac.out (aa:Int) (of_eq_true aX) (of_eq_true aY)));(try(have HP29:=Kd.R_putg ac.out (aa:Int) af))));refine store_event (t:=3) (p:=58) (v := ?vo_w30) (w1:=(wr.setCell ⟨aj,(aa:Int).toNat,none⟩ (.int .i64 af))) ?hg ?ho ?hn ?hr ?_;(case ho=>rfl);(case hg=>rfl);(case hn=>rfl);(case hr=>first|(go_simp;done)|(go_simp;rfl)|(go_simp;congr 2;rw [← ah];unfold mn;omega));intro w30 hw;have hg:wr.grownBy w30 (some aj):=(by rw [hw];exact HP29.2);have hp_:Kd.R (Kd.int .i64) 3 w30 w.heap.size (fun _=>True) (.slice (some ⟨aj,0,none⟩) ae.length a9) bn:=(by rw [hw,bK.out];exact HP29.1);clear HP29;have n0_:=A0_ (hp_);have n1_:=A0_ ((by rw [hw];exact bS (HB.out) GB26.out:Below w.heap.size w w30));clear ac HB;have ac:=n0_;have HB:=n1_;clear n0_ n1_ hg hw hp_;have aD:0≤((rd (rd_L1 l0 ab) aa):Int):=zd;have aE:((rd (rd_L1 l0 ab) aa):Int)<((ae.length:Int):Int):=zd;obtain⟨bQ,bR⟩:=Kd.R_celln 0 ac.out ((rd (rd_L1 l0 ab) aa):Int) aD aE;replace aD:=eq_true aD;replace aE:=eq_true aE;obtain⟨hy31_,hz31_⟩:=Kd.R_celln 0 ac.out ((rd (rd_L1 l0 ab) aa):Int) (zd) (zd);have HP31:=Kd.R_putg ac.out ((rd (rd_L1 l0 ab) aa):Int) af)|((with_reducible refine gS (t:=3) (p:=59) rfl ?_);(try(rw [drewN_self w30];generalize hq_:World.drewN w30 _=w30;have n0_:=A0_ (Kd.R_at hq_ ac.out);have n1_:=A0_ (below_at hq_ HB.out);clear hq_ ac HB;have ac:=n0_;have HB:=n1_;clear n0_ n1_;(try(obtain⟨ay,az⟩:=Kd.R_celln 0 ac.out (aa:Int) (of_eq_true aX) (of_eq_true aY)));(try(obtain⟨hy31_,hz31_⟩:=Kd.R_celln 0 ac.out ((rd (rd_L1 l0 ab) aa):Int) (zd) (zd)));(try(have HP31:=Kd.R_putg ac.out ((rd (rd_L1 l0 ab) aa):Int) af))));refine store_event (t:=3) (p:=59) (v := ?vo_w32) (w1:=(w30.setCell ⟨aj,((rd (rd_L1 l0 ab) aa):Int).toNat,none⟩ (.int .i64 af))) ?hg ?ho ?hn ?hr ?_;(case ho=>rfl);(case hg=>rfl);(case hn=>rfl);(case hr=>first|(go_simp;done)|(go_simp;rfl)|(go_simp;congr 2;rw [← ah];unfold mn;omega));intro w32 hw;have hg:w30.grownBy w32 (some aj):=(by rw [hw];exact HP31.2);have hp_:Kd.R (Kd.int .i64) 3 w32 w.heap.size (fun _=>True) (.slice (some ⟨aj,0,none⟩) ae.length a9) bo:=(by rw [hw,bM.out];exact HP31.1);clear HP31;have n0_:=A0_ (hp_);have n1_:=A0_ ((by rw [hw];exact bS (HB.out) GB26.out:Below w.heap.size w w32));clear ac HB;have ac:=n0_;have HB:=n1_;clear n0_ n1_ hg hw hp_)))
          go_roundg k3
          case measure=>have:=aK.out;have:=aM.out;have:=bb.out;omega
          case rel=>exact⟨(bo),(true),(wrap64 (aa+1)),zt,zt,H',⟨by have:=aK.out;have:=aM.out;have:=bb.out;omega⟩,⟨zR_ ac⟩,⟨zB_ HB⟩⟩
         rw [if_neg c9] at H;have co:=dF c9;clear c9;have H':=A0_ H;clear H
         go_wp2
         repeat(go_quiet (fail);try go_wp2)
         go_roundg k3
         case measure=>have:=aK.out;have:=aM.out;have:=bb.out;omega
         case rel=>exact⟨(ae),(a7),(wrap64 (ab+1)),zt,zt,H',⟨by have:=aK.out;have:=aM.out;have:=bb.out;omega⟩,⟨zR_ ac⟩,⟨zB_ HB⟩⟩
      rw [if_neg c6] at H;have bY:=dF c6;clear c6;have H':=A0_ H;clear H
      go_wp2
      repeat(go_quiet (fail);try go_wp2)
      go_roundg k2
      case measure=>have:=aK.out;have:=aM.out;omega
      case rel=>exact⟨(bd),(be),zt,H',⟨by have:=aK.out;have:=aM.out;omega⟩,⟨zR_ ac⟩,⟨zB_ HB⟩⟩
   replace c5:=Bool.eq_false_iff.mpr c5;subst c5
   rw [if_neg (show ¬ (false=true) by decide)] at H
   obtain rfl:=sI H
   go_wp2
   repeat(go_quiet (fail);try go_wp2)
   go_ret
   exact⟨_,by first|rfl|(simp [*] <;> rfl),zR_ ac,zB_ HB⟩
end Go.Proofs.Ytmegggomhjgehaa.PFnCoverConj
