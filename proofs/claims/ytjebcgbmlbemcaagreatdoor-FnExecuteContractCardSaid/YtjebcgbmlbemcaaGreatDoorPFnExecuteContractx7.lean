import Derived.Test.YtjebcgbmlbemcaaGreatDoorPFnExecuteContractx6
namespace Go.Proofs.YtjebcgbmlbemcaaGreatDoor.PFnExecuteContract
open Go.RowKit Go.Proofs.YtjebcgbmlbemcaaGreatDoorW.PrintWords Go.Proofs.YtjebcgbmlbemcaaGreatDoorW.PrintLast Go.Proofs.YtjebcgbmlbemcaaGreatDoorW.PrintMore
set_option maxHeartbeats 8000000
set_option maxRecDepth 100000
attribute [local go_sem] max2_int min2_int max_two min_two max_three min_three max_four min_four
set_option linter.unusedVariables false
set_option linter.unusedSimpArgs false
mutual
def ib_.l0:Nat→Int→Int→List Int→Int→Int→Int→List Int→List Int→Option (List Int×List Int)
  | 0,_,_,_,_,_,_,_,_=>none
  | k+1,x1,x2,x9,ag,ah,ac,aa,ab=>if ac<ah then (if 0≤ac then (if ac<(x9.length:Int) then ((some (x9.set (ac:Int).toNat ag:List Int)).bind fun af=>(if ac=x1 then (ib_.l0 k x1 x2 af ag ah (wrap64 (ac+1)) aa ab) else (if ac=x2 then (ib_.l0 k x1 x2 af ag ah (wrap64 (ac+1)) aa ab) else (ib_.l0 k x1 x2 af (wrap64 (ag+1)) ah (wrap64 (ac+1)) aa ab)))) else (none)) else (none)) else (ib_.l1 k x1 x2 x9 (aa.length:Int) 0 aa ab ([]:List Int) ([]:List Int))
def ib_.l1:Nat→Int→Int→List Int→Int→Int→List Int→List Int→List Int→List Int→Option (List Int×List Int)
  | 0,_,_,_,_,_,_,_,_,_=>none
  | k+1,x1,x2,x9,ai,ac,ab,aa,af,ag=>if ac<ai then (if ac=x1 then (ib_.l1 k x1 x2 x9 ai (wrap64 (ac+1)) ab aa af ag) else (if ac=x2 then (ib_.l1 k x1 x2 x9 ai (wrap64 (ac+1)) ab aa af ag) else (if 0≤ac then (if ac<(ab.length:Int) then ((i3_.f k ab aa x1 x2 (rd ab ac)).bind fun ah=>(if 0≤ah then (if ah<(x9.length:Int) then (if af.length<17592186044416 then (if ac<(aa.length:Int) then (if 0≤(rd aa ac) then (if (rd aa ac)<(x9.length:Int) then (if ag.length<17592186044416 then (ib_.l1 k x1 x2 x9 ai (wrap64 (ac+1)) ab aa (af ++ [rd x9 ah]) (ag ++ [rd x9 (rd aa ac)])) else (none)) else (none)) else (none)) else (none)) else (none)) else (none)) else (none))) else (none)) else (none)))) else (some (af,ag))
end
def ib_.f (k:Nat) (aa:List Int) (ac:List Int) (a1:Int) (a2:Int):Option (List Int×List Int):=if 0≤(aa.length:Int) then (if ((aa.length:Int):Int).toNat≤35184372088832 then ((some (List.replicate ((aa.length:Int):Int).toNat 0:List Int)).bind fun ab=>(ib_.l0 k a1 a2 ab 0 (ab.length:Int) 0 aa ac)) else (none)) else (none)
def ib_.T14:Bool×List (List Nat×List Nat):=(true,[([],[]),([0],[0]),([],[]),([],[]),([],[]),([4],[4]),([],[]),([5,6],[5,6]),([7],[7]),([3,8],[3,8]),([2,9],[2,9]),([10],[10]),([11],[11]),([1,12,9],[1,12]),([0,1,2,3,4,5,6,7,8,9,10,11,12,13],[]),([14,13,13,0,1,2,3,4,5,6,7,8,9,10,11,12,13],[13,14])])
def ib_.B14:List Nat := [0,1,0,0,0,16,0,112,240,504,1020,2044,4092,8191,16383,32767]
theorem ib_.tab14:rtab .any (opsOf Tryz.f49 14)=ib_.T14:=by kernel_rfl
theorem ib_.bits14:waitsOk ib_.T14.2 ib_.B14=true:=by kernel_rfl
def ib_.T15:Bool×List (List Nat×List Nat):=(true,[([],[]),([0],[0]),([],[]),([],[]),([3],[3]),([],[]),([4,5],[4,5]),([6],[6]),([2,7],[2,7]),([8],[8]),([9],[9]),([1,10],[1,10]),([0,1,2,3,4,5,6,7,8,9,10,11],[]),([12,11,11,0,1,2,3,4,5,6,7,8,9,10,11],[11,12])])
def ib_.B15:List Nat := [0,1,0,0,8,0,56,120,252,508,1020,2047,4095,8191]
theorem ib_.tab15:rtab .any (opsOf Tryz.f49 15)=ib_.T15:=by kernel_rfl
theorem ib_.bits15:waitsOk ib_.T15.2 ib_.B15=true:=by kernel_rfl
theorem ib_.calls (k:Nat) (aW:Option Addr) (aD:Nat) (ak:List Int) (aJ:Option Addr) (aE:Nat) (al:List Int) (a1:Int) (a2:Int) (r1:List Int) (r2:List Int) (w:World) (bY:Kd.C (Kd.int .i64) w aW ak.length ak) (b5:ak.length≤aD) (b6:Kd.C (Kd.int .i64) w aJ al.length al) (b7:al.length≤aE) (gea geb gem:Nat) (hea:w.heap[gea]? = some (.cells #[.int .i64 a1] 3 (0,0))) (heb:w.heap[geb]? = some (.cells #[.int .i64 a2] 3 (0,0))) (hem:w.heap[gem]? = some (.cells #[.slice aW ak.length aD,.slice aJ al.length aE] 25 (0,0))) (h:ib_.f k ak al a1 a2=some (r1,r2)) :
    Calls Tryz.prog 49 #[.agg #[.slice aW ak.length aD,.slice aJ al.length aE],.int .i64 a1,.int .i64 a2,.func (.func 50) #[] #[.pointer (some ⟨gea,0,none⟩),.pointer (some ⟨geb,0,none⟩),.pointer (some ⟨gem,0,none⟩)]] w fun e w' => ∃ v0_ v1_:Value,e = .returned (.agg #[v0_,v1_])∧Kd.R (Kd.int .i64) 3 w' w.heap.size (fun k_=>nO k_ v1_) v0_ r1∧Kd.R (Kd.int .i64) 3 w' w.heap.size (fun k_=>nO k_ v0_) v1_ r2∧Below w.heap.size w w':=by
 have ed:=Tryz.underlying25;have b8:=A0_ bY;have cx:=A0_ b5;clear bY b5;have b9:=A0_ b6;have cy:=A0_ b7;clear b6 b7
 have BKea:=A0_ hea;have BKeb:=A0_ heb;have BKem:=A0_ hem;clear hea heb hem
 have HB:=A0_ (Below.refl w.heap.size w)
 have H:(if 0≤(ak.length:Int) then (if ((ak.length:Int):Int).toNat≤35184372088832 then ((some (List.replicate ((ak.length:Int):Int).toNat 0:List Int)).bind fun aK=>(ib_.l0 k a1 a2 aK 0 (aK.length:Int) 0 ak al)) else (none)) else (none))=some (r1,r2):=h
 clear h
 have c4:=zpc H;replace H:=zph H
 have cp:=eq_true c4;have cq:=dT c4;clear c4
 have c5:=zpc H;replace H:=zph H
 have cr:=eq_true c5;have ct:=dT c5;clear c5
 obtain⟨aK,bn⟩ : ∃ y_:List Int,y_=(List.replicate ((ak.length:Int):Int).toNat 0):=⟨_,rfl⟩
 replace H:(ib_.l0 k a1 a2 aK 0 (aK.length:Int) 0 ak al)=some (r1,r2):=zH bn H
 have cd:=A0_ bn;clear bn;have H':=A0_ H;clear H
 go_enter Tryz.func49,Tryz.ntmps49
 go_wp2_with (first|((with_reducible refine gD (N:=4) rfl ?_);refine zX (N:=4) (cs := #[.slice aW ak.length aD,.slice aJ al.length aE]) (t:=25) ?_;intro aA hg w6 hbox hb;have aa:=A0_ (hbox);have dJ:=zG hg HB;have dK:=zG hg HB;replace HB:=zB HB hb;clear hb hbox hg)|((with_reducible refine gD (N:=8) rfl ?_);refine zX (N:=8) (cs := #[.slice none 0 0,.slice none 0 0]) (t:=25) ?_;intro az hg w7 hbox hb;have af:=A0_ (hbox);have dL:=zG hg HB;have dM:=zG hg HB;replace HB:=zB HB hb;have a4:=zL hg aa;have a5:=zM hg aa;replace aa:=zK aa hb;clear hb hbox hg;have ee:=a4.out;have ef:=a5.out;have bF:=zc0 aa;have bG:=zc1 aa;have bH:=kF aa.out 0;have bI:=kF aa.out 1)|((with_reducible refine gD (N:=17) rfl ?_);refine Kd.R_make (Kd.int .i64) _ 3 rfl (N:=17) rfl 23 _ _ rfl (ak.length:Int) rfl rfl Tryz.underlying23 (.int .i64 0) 8 info3 rfl (by decide) (by omega) 0 (ok:=fun _=>True) (okp:=fun _=>True) rfl (fun _ hk=>hk) trivial (zd) (Nat.le_trans (Nat.mul_le_mul_right _ (zd:(ak.length:Int).toNat≤35184372088832)) (by omega)) (Below.refl _ _) (Nat.le_refl _) ?_;intro eg w10 bd hb hg_ hnew_;clear hg_ hnew_;(first|rw [← cd.out] at bd|(simp only [Int.reduceToNat] at bd;rw [← cd.out] at bd));have ce:=A0_ (rL bd (bZ (zB_ HB)));replace aa:=zK aa hb;replace af:=zK af hb;replace HB:=zB HB hb;clear hb bd;obtain⟨bo,aG,dh⟩:=rS ce.out;subst dh))
 go_loopg [10,20] k (fun kq v10 v20 w' => ∃ (am:List Int) (aw:Int) (ai:Int),v10 = .int .i64 aw∧v20 = .int .i64 ai∧Aside0 (ib_.l0 kq a1 a2 am aw (aK.length:Int) ai ak al=some (r1,r2))∧Aside0 (kq≤k)∧Aside0 (Kd.R (Kd.int .i64) 3 w' w.heap.size (fun _=>True) (.slice bo aK.length aG) am)∧Aside0 (w'.heap[aA]? = some (.cells #[(.slice aW ak.length aD),(.slice aJ al.length aE)] 25 (0,0)))∧Aside0 (w'.heap[az]? = some (.cells #[(.slice none 0 0),(.slice none 0 0)] 25 (0,0)))∧Aside0 (Below w.heap.size w w'))
 case atStart=>exact⟨(aK),(0),(0),zt,zt,H',⟨Nat.le_refl _⟩,⟨zR_ ce⟩,⟨zK_ aa⟩,⟨zK_ af⟩,⟨zB_ HB⟩⟩
 case round =>
  clear H';(try clear c4);(try clear cp);(try clear cq);(try clear c5);(try clear cr);(try clear ct);(try clear bF);(try clear bG);(try clear bH);(try clear bI);obtain⟨am,aw,ai,rfl,rfl,HA,aZ,aj,aa,af,HB⟩:=hrel;have ab:=(rR aj.out).1;rw [ab] at aj;(try simp only [ab]);(try simp only [ab] at aa);(try simp only [ab] at af)
  cases gk with
  | zero=>exact absurd HA.out (by simp [ib_.l0])
  | succ k1 =>
   have H:=HA.out;clear HA;simp only [ib_.l0] at H
   by_cases be:ai<(aK.length:Int)
   ·rw [if_pos be] at H
    have bc:=dT be;(try simp only [ab] at bc);clear be
    have cV:=zpc H;replace H:=zph H
    have dN:=dT cV;clear cV
    have cW:=zpc H;replace H:=zph H
    have cz:=dT cW;(try simp only [ab] at cz);clear cW
    obtain⟨aX,bp⟩ : ∃ y_:List Int,y_=(am.set (ai:Int).toNat aw):=⟨_,rfl⟩
    replace H:(if ai=a1 then (ib_.l0 k1 a1 a2 aX aw (aK.length:Int) (wrap64 (ai+1)) ak al) else (if ai=a2 then (ib_.l0 k1 a1 a2 aX aw (aK.length:Int) (wrap64 (ai+1)) ak al) else (ib_.l0 k1 a1 a2 aX (wrap64 (aw+1)) (aK.length:Int) (wrap64 (ai+1)) ak al)))=some (r1,r2):=zH bp H
    have bq:=A0_ bp;clear bp
    by_cases bf:ai=a1
    ·rw [if_pos bf] at H
     have cC:(ai == a1)=true:=beq_iff_eq.mpr bf
     have cE:(ai != a1)=false:=bne_eq_false_iff_eq.mpr bf
     clear bf;have H':=A0_ H;clear H
     have a6:0≤(ai:Int):=zd
     have a7:(ai:Int)<((am.length:Int):Int):=zd
     obtain⟨aN,cu,a8,a9,gl16,cl16,HG16⟩:=Kd.R_form aj.out (by omega)
     (first|cases a8|(injection a8 with ea_ en_ ec_;(first|subst ea_|(injection ea_ with ea_;subst ea_));subst ec_;clear en_))
     have GB16:=A0_ a9;have GG16:=A0_ HG16;clear a9 gl16 HG16
     obtain⟨bJ,bK⟩:=Kd.R_celln 0 aj.out (ai:Int) a6 a7
     replace a6:=eq_true a6;replace a7:=eq_true a7
     have HP18:=Kd.R_putg aj.out (ai:Int) aw
     go_wp2_with (first|((with_reducible refine gS (t:=3) (p:=26) rfl ?_);refine store_event (t:=3) (p:=26) (v := ?vo_w19) (w1:=(wr.setCell ⟨aN,(ai:Int).toNat,none⟩ (.int .i64 aw))) ?hg ?ho ?hn ?hr ?_;(case ho=>rfl);(case hg=>rfl);(case hn=>rfl);(case hr=>first|(go_simp;done)|(go_simp;rfl));intro w19 hw;have hg:wr.grownBy w19 (some aN):=(by rw [hw];exact HP18.2);have hp_:Kd.R (Kd.int .i64) 3 w19 w.heap.size (fun _=>True) (.slice (some ⟨aN,0,none⟩) am.length aG) aX:=(by rw [hw,bq.out];exact HP18.1);clear HP18;replace aa:=A0_ (blk_grown (g:=aA) (o := .cells #[.slice aW ak.length aD,.slice aJ al.length aE] 25 (0,0)) (zK_ aa) hg (Kd.R_ne aj.out aa.out (by decide)));replace af:=A0_ (blk_grown (g:=az) (o := .cells #[.slice none 0 0,.slice none 0 0] 25 (0,0)) (zK_ af) hg (Kd.R_ne aj.out af.out (by decide)));replace aj:=A0_ (hp_);replace HB:=A0_ ((by rw [hw];exact bS (HB.out) GB16.out:Below w.heap.size w w19));clear hg hw hp_))
     (try simp only [← ab])
     go_roundg k1
     case measure=>have:=aZ.out;omega
     case rel=>exact⟨(aX),(aw),(wrap64 (ai+1)),zt,zt,H',⟨by have:=aZ.out;omega⟩,⟨by(try simp only [ab]);(with_reducible repeat(first|apply rA|apply rN|apply rD));exact aj.out⟩,⟨by(try simp only [ab]);exact zK_ aa⟩,⟨by(try simp only [ab]);exact zK_ af⟩,⟨zB_ HB⟩⟩
    rw [if_neg bf] at H
    have cC:(ai == a1)=false:=beq_eq_false_iff_ne.mpr bf
    have cE:(ai != a1)=true:=bne_iff_ne.mpr bf
    by_cases bg:ai=a2
    ·rw [if_pos bg] at H
     have cF:(ai == a2)=true:=beq_iff_eq.mpr bg
     have cG:(ai != a2)=false:=bne_eq_false_iff_eq.mpr bg
     clear bg;have H':=A0_ H;clear H
     have a6:0≤(ai:Int):=zd
     have a7:(ai:Int)<((am.length:Int):Int):=zd
     obtain⟨aN,cu,a8,a9,gl16,cl16,HG16⟩:=Kd.R_form aj.out (by omega)
     (first|cases a8|(injection a8 with ea_ en_ ec_;(first|subst ea_|(injection ea_ with ea_;subst ea_));subst ec_;clear en_))
     have GB16:=A0_ a9;have GG16:=A0_ HG16;clear a9 gl16 HG16
     obtain⟨bJ,bK⟩:=Kd.R_celln 0 aj.out (ai:Int) a6 a7
     replace a6:=eq_true a6;replace a7:=eq_true a7
     have HP21:=Kd.R_putg aj.out (ai:Int) aw
     go_wp2_with (first|((with_reducible refine gS (t:=3) (p:=26) rfl ?_);refine store_event (t:=3) (p:=26) (v := ?vo_w22) (w1:=(wr.setCell ⟨aN,(ai:Int).toNat,none⟩ (.int .i64 aw))) ?hg ?ho ?hn ?hr ?_;(case ho=>rfl);(case hg=>rfl);(case hn=>rfl);(case hr=>first|(go_simp;done)|(go_simp;rfl));intro w22 hw;have hg:wr.grownBy w22 (some aN):=(by rw [hw];exact HP21.2);have hp_:Kd.R (Kd.int .i64) 3 w22 w.heap.size (fun _=>True) (.slice (some ⟨aN,0,none⟩) am.length aG) aX:=(by rw [hw,bq.out];exact HP21.1);clear HP21;replace aa:=A0_ (blk_grown (g:=aA) (o := .cells #[.slice aW ak.length aD,.slice aJ al.length aE] 25 (0,0)) (zK_ aa) hg (Kd.R_ne aj.out aa.out (by decide)));replace af:=A0_ (blk_grown (g:=az) (o := .cells #[.slice none 0 0,.slice none 0 0] 25 (0,0)) (zK_ af) hg (Kd.R_ne aj.out af.out (by decide)));replace aj:=A0_ (hp_);replace HB:=A0_ ((by rw [hw];exact bS (HB.out) GB16.out:Below w.heap.size w w22));clear hg hw hp_))
     (try simp only [← ab])
     go_roundg k1
     case measure=>have:=aZ.out;omega
     case rel=>exact⟨(aX),(aw),(wrap64 (ai+1)),zt,zt,H',⟨by have:=aZ.out;omega⟩,⟨by(try simp only [ab]);(with_reducible repeat(first|apply rA|apply rN|apply rD));exact aj.out⟩,⟨by(try simp only [ab]);exact zK_ aa⟩,⟨by(try simp only [ab]);exact zK_ af⟩,⟨zB_ HB⟩⟩
    rw [if_neg bg] at H
    have cF:(ai == a2)=false:=beq_eq_false_iff_ne.mpr bg
    have cG:(ai != a2)=true:=bne_iff_ne.mpr bg
    have H':=A0_ H;clear H
    have a6:0≤(ai:Int):=zd
    have a7:(ai:Int)<((am.length:Int):Int):=zd
    obtain⟨aN,cu,a8,a9,gl16,cl16,HG16⟩:=Kd.R_form aj.out (by omega)
    (first|cases a8|(injection a8 with ea_ en_ ec_;(first|subst ea_|(injection ea_ with ea_;subst ea_));subst ec_;clear en_))
    have GB16:=A0_ a9;have GG16:=A0_ HG16;clear a9 gl16 HG16
    obtain⟨bJ,bK⟩:=Kd.R_celln 0 aj.out (ai:Int) a6 a7
    replace a6:=eq_true a6;replace a7:=eq_true a7
    have HP23:=Kd.R_putg aj.out (ai:Int) aw
    go_wp2_with (first|((with_reducible refine gS (t:=3) (p:=26) rfl ?_);refine store_event (t:=3) (p:=26) (v := ?vo_w24) (w1:=(wr.setCell ⟨aN,(ai:Int).toNat,none⟩ (.int .i64 aw))) ?hg ?ho ?hn ?hr ?_;(case ho=>rfl);(case hg=>rfl);(case hn=>rfl);(case hr=>first|(go_simp;done)|(go_simp;rfl));intro w24 hw;have hg:wr.grownBy w24 (some aN):=(by rw [hw];exact HP23.2);have hp_:Kd.R (Kd.int .i64) 3 w24 w.heap.size (fun _=>True) (.slice (some ⟨aN,0,none⟩) am.length aG) aX:=(by rw [hw,bq.out];exact HP23.1);clear HP23;replace aa:=A0_ (blk_grown (g:=aA) (o := .cells #[.slice aW ak.length aD,.slice aJ al.length aE] 25 (0,0)) (zK_ aa) hg (Kd.R_ne aj.out aa.out (by decide)));replace af:=A0_ (blk_grown (g:=az) (o := .cells #[.slice none 0 0,.slice none 0 0] 25 (0,0)) (zK_ af) hg (Kd.R_ne aj.out af.out (by decide)));replace aj:=A0_ (hp_);replace HB:=A0_ ((by rw [hw];exact bS (HB.out) GB16.out:Below w.heap.size w w24));clear hg hw hp_))
    (try simp only [← ab])
    go_roundg k1
    case measure=>have:=aZ.out;omega
    case rel=>exact⟨(aX),(wrap64 (aw+1)),(wrap64 (ai+1)),zt,zt,H',⟨by have:=aZ.out;omega⟩,⟨by(try simp only [ab]);(with_reducible repeat(first|apply rA|apply rN|apply rD));exact aj.out⟩,⟨by(try simp only [ab]);exact zK_ aa⟩,⟨by(try simp only [ab]);exact zK_ af⟩,⟨zB_ HB⟩⟩
   rw [if_neg be] at H;have bc:=dF be;(try simp only [ab] at bc);clear be;have H':=A0_ H;clear H
   go_wp2_with (first|((with_reducible refine gD (N:=12) rfl ?_);refine zX (N:=12) (cs := #[.slice none 0 0,.slice none 0 0]) (t:=25) ?_;intro an hg w25 hbox hb;replace aj:=zR aj hb;have ac:=A0_ (hbox);have dO:=zG hg HB;have dP:=zG hg HB;replace HB:=zB HB hb;have ax:=zL hg aa;have aQ:=zM hg aa;replace aa:=zK aa hb;have ay:=zL hg af;have aT:=zM hg af;replace af:=zK af hb;clear hb hbox hg;have dQ:=aQ.out;have dR:=ax.out;have dS:=aT.out;have dU:=ay.out;have cg:=zc0 ac;have ch:=zc1 ac;have ci:=kF ac.out 0;have cj:=kF ac.out 1;have dV:=a4.out;have dW:=a5.out;have ck:=zc0 aa;have cl:=zc1 aa;have cm:=kF aa.out 0;have cn:=kF aa.out 1))
   go_loopg [42] k1 (fun kq v42 w' => ∃ (ag:Int) (aq:List Int) (ao:List Int) (u265000:Value) (u265001:Value),v42 = .int .i64 ag∧Aside0 (ib_.l1 kq a1 a2 am (ak.length:Int) ag ak al aq ao=some (r1,r2))∧Aside0 (kq≤k1)∧Aside0 (Kd.R (Kd.int .i64) 3 w' w.heap.size (fun k_=>nO k_ u265000∧nO k_ u265001) (.slice bo am.length aG) am)∧Aside0 (Kd.R (Kd.int .i64) 3 w' w.heap.size (fun k_=>some k_≠((.slice bo am.length aG):Value).ownBlock∧nO k_ u265001) u265000 aq)∧Aside0 (Kd.R (Kd.int .i64) 3 w' w.heap.size (fun k_=>some k_≠((.slice bo am.length aG):Value).ownBlock∧nO k_ u265000) u265001 ao)∧Aside0 (w'.heap[aA]? = some (.cells #[(.slice aW ak.length aD),(.slice aJ al.length aE)] 25 (0,0)))∧Aside0 (w'.heap[az]? = some (.cells #[(.slice none 0 0),(.slice none 0 0)] 25 (0,0)))∧Aside0 (w'.heap[an]? = some (.cells #[u265000,u265001] 25 (0,0)))∧Aside0 (Below w.heap.size w w'))
   case atStart=>exact⟨(0),(([]:List Int)),(([]:List Int)),(.slice none 0 0),(.slice none 0 0),zt,H',⟨Nat.le_refl _⟩,⟨by(try simp only [ab]);(with_reducible repeat(first|apply rA|apply rN|apply rD));exact rM (rF (p:=⟨an,1,none⟩) (rF (p:=⟨an,0,none⟩) (rY aj.out ac.out (by decide)) (fun _ hk=>hk.2) (.slice none 0 0)) (fun _ hk=>hk.2) (.slice none 0 0)) (fun _ hk=>⟨(by simp [Value.ownBlock]),(by simp [Value.ownBlock])⟩)⟩,⟨by(try simp only [ab]);first|exact Kd.R_nil _ _ _ _ _|exact Kd.N_nil _ _ _ _ _|exact Kd.V_nil _ _ _ _ _|exact Kd.Q_nil _ _ _ _ _|exact Kd.S_nil _ _ _ _ _⟩,⟨by(try simp only [ab]);first|exact Kd.R_nil _ _ _ _ _|exact Kd.N_nil _ _ _ _ _|exact Kd.V_nil _ _ _ _ _|exact Kd.Q_nil _ _ _ _ _|exact Kd.S_nil _ _ _ _ _⟩,⟨by(try simp only [ab]);refine zbf ?_ _ (hp:=by exact ax.out);refine zbf ?_ _ (hp:=by exact ax.out);exact zK_ aa⟩,⟨by(try simp only [ab]);refine zbf ?_ _ (hp:=by exact ay.out);refine zbf ?_ _ (hp:=by exact ay.out);exact zK_ af⟩,⟨by(try simp only [ab]);refine zbp (cs := #[.slice none 0 0,.slice none 0 0]) ?_ 1 _ rfl;refine zbp (cs := #[.slice none 0 0,.slice none 0 0]) ?_ 0 _ rfl;exact zK_ ac⟩,⟨zB_ HB⟩⟩
   case round =>
    clear H';(try clear c4);(try clear cp);(try clear cq);(try clear c5);(try clear cr);(try clear ct);(try clear be);(try clear bc);(try clear cg);(try clear ch);(try clear ck);(try clear cl);(try clear bF);(try clear bG);(try clear ci);(try clear cj);(try clear cm);(try clear cn);(try clear bH);(try clear bI);obtain⟨ag,aq,ao,u265000,u265001,rfl,HA,bj,aj,ap,ah,aa,af,ac,HB⟩:=hrel
    cases gk with
    | zero=>exact absurd HA.out (by simp [ib_.l1])
    | succ k2 =>
     have H:=HA.out;clear HA;simp only [ib_.l1] at H
     by_cases bk:ag<(ak.length:Int)
     ·rw [if_pos bk] at H
      have br:=dT bk;(try simp only [ab] at br);clear bk
      by_cases bh:ag=a1
      ·rw [if_pos bh] at H
       have cH:(ag == a1)=true:=beq_iff_eq.mpr bh
       have cI:(ag != a1)=false:=bne_eq_false_iff_eq.mpr bh
       clear bh;have H':=A0_ H;clear H
       go_wp2
       go_roundg k2
       case measure=>have:=aZ.out;have:=bj.out;omega
       case rel=>exact⟨(wrap64 (ag+1)),(aq),(ao),(u265000),(u265001),zt,H',⟨by have:=aZ.out;have:=bj.out;omega⟩,⟨by(try simp only [ab]);(with_reducible repeat(first|apply rA|apply rN|apply rD));exact aj.out⟩,⟨by(try simp only [ab]);(with_reducible repeat(first|apply rA|apply rN|apply rD));exact ap.out⟩,⟨by(try simp only [ab]);(with_reducible repeat(first|apply rA|apply rN|apply rD));exact ah.out⟩,⟨by(try simp only [ab]);exact zK_ aa⟩,⟨by(try simp only [ab]);exact zK_ af⟩,⟨by(try simp only [ab]);exact zK_ ac⟩,⟨zB_ HB⟩⟩
      rw [if_neg bh] at H
      have cH:(ag == a1)=false:=beq_eq_false_iff_ne.mpr bh
      have cI:(ag != a1)=true:=bne_iff_ne.mpr bh
      by_cases bi:ag=a2
      ·rw [if_pos bi] at H
       have cJ:(ag == a2)=true:=beq_iff_eq.mpr bi
       have cK:(ag != a2)=false:=bne_eq_false_iff_eq.mpr bi
       clear bi;have H':=A0_ H;clear H
       go_wp2
       go_roundg k2
       case measure=>have:=aZ.out;have:=bj.out;omega
       case rel=>exact⟨(wrap64 (ag+1)),(aq),(ao),(u265000),(u265001),zt,H',⟨by have:=aZ.out;have:=bj.out;omega⟩,⟨by(try simp only [ab]);(with_reducible repeat(first|apply rA|apply rN|apply rD));exact aj.out⟩,⟨by(try simp only [ab]);(with_reducible repeat(first|apply rA|apply rN|apply rD));exact ap.out⟩,⟨by(try simp only [ab]);(with_reducible repeat(first|apply rA|apply rN|apply rD));exact ah.out⟩,⟨by(try simp only [ab]);exact zK_ aa⟩,⟨by(try simp only [ab]);exact zK_ af⟩,⟨by(try simp only [ab]);exact zK_ ac⟩,⟨zB_ HB⟩⟩
      rw [if_neg bi] at H
      have cJ:(ag == a2)=false:=beq_eq_false_iff_ne.mpr bi
      have cK:(ag != a2)=true:=bne_iff_ne.mpr bi
      have cX:=zpc H;replace H:=zph H
      have dX:=dT cX;clear cX
      have cY:=zpc H;replace H:=zph H
      have cL:=dT cY;(try simp only [ab] at cL);clear cY;obtain⟨aY,dI,H⟩:=zbind H
      have cZ:=zpc H;replace H:=zph H
      have dY:=dT cZ;clear cZ
      have da:=zpc H;replace H:=zph H
      have cM:=dT da;(try simp only [ab] at cM);clear da
      have db:=zpc H;replace H:=zph H
      have cO:=A0_ db;clear db
      obtain⟨ar,bu⟩ : ∃ y_:List Int,y_=(aq ++ [rd am aY]):=⟨_,rfl⟩
      replace H:(if ag<(al.length:Int) then (if 0≤(rd al ag) then (if (rd al ag)<(am.length:Int) then (if ao.length<17592186044416 then (ib_.l1 k2 a1 a2 am (ak.length:Int) (wrap64 (ag+1)) ak al ar (ao ++ [rd am (rd al ag)])) else (none)) else (none)) else (none)) else (none))=some (r1,r2):=zH bu H
      have cP:=A0_ bu;clear bu
      have dc:=zpc H;replace H:=zph H
      have cQ:=dT dc;(try simp only [ab] at cQ);clear dc
      have dd:=zpc H;replace H:=zph H
      have dZ:=dT dd;clear dd
      have de:=zpc H;replace H:=zph H
      have cR:=dT de;(try simp only [ab] at cR);clear de
      have df:=zpc H;replace H:=zph H
      have cS:=A0_ df;clear df
      obtain⟨bb,bv⟩ : ∃ y_:List Int,y_=(ao ++ [rd am (rd al ag)]):=⟨_,rfl⟩
      replace H:(ib_.l1 k2 a1 a2 am (ak.length:Int) (wrap64 (ag+1)) ak al ar bb)=some (r1,r2):=zH bv H
      have cT:=A0_ bv;clear bv;have H':=A0_ H;clear H
      try go_wp2
      replace aj:=A0_ (rD aj.out)
      replace ap:=A0_ (rD ap.out)
      replace ah:=A0_ (rD ah.out)
      replace aa:=A0_ (kD aa.out)
      replace af:=A0_ (kD af.out)
      replace ac:=A0_ (kD ac.out)
      replace HB:=A0_ (bD HB.out)
      have bL:0≤(ag:Int):=zd
      have bM:ag<(ak.length:Int):=zd
      obtain⟨ba,di,aU⟩:=tI b8.out ag bL bM;have aC:=aU
      cases di
      try replace aU:=(HB.out.cell (wL w _ aU)).trans aU
      replace bL:=eq_true bL;replace bM:=eq_true bM
      have bO:0≤(aY:Int):=zd
      have bP:aY<(am.length:Int):=zd
      obtain⟨aI,dj,bl⟩:=tI (rR aj.out).2.2 aY bO bP
      cases dj
      replace bO:=eq_true bO;replace bP:=eq_true bP
      refine start_ (n:=16) (S:=fun w'=>w'.cell? ⟨an,0,none⟩=some (u265000)∧w'.cell? ⟨an,1,none⟩=some (u265001)∧w'.cell? ⟨aA,0,none⟩=some (.slice (some ba) ak.length aD)∧w'.cell? ⟨aA,1,none⟩=some (.slice aJ al.length aE)∧w'.cell? (ba.add (ag).toNat)=some (.int .i64 (rd ak ag))∧w'.cell? (aI.add (aY).toNat)=some (.int .i64 (rd am aY))) (ds := [13,15]) (bs 16 0) (by kernel_rfl) rfl rfl ⟨(kC ac.out 0).trans rfl,(kC ac.out 1).trans rfl,(kC aa.out 0).trans rfl,(kC aa.out 1).trans rfl,((HB.out.cell (wL w _ aC)).trans aC),bl⟩ (fun hHeld => ?_);refine with_tabW ib_.tab14 ib_.bits14 (fun HT_ HW_ => ?_)
      generalize wr.drew=w44 at aj ap ah aa af ac HB aU bl hHeld ⊢
      refine zP 0 (some 53) (bs 16 1) ?_
      refine zP 2 (some 55) (bs 16 5) ?_
      refine zP 3 (some 56) (bs 16 13) ?_
      refine zP 4 (some 57) (bs 16 29) ?_
      refine zP 6 (some 59) (bs 16 93) ?_
      refine zT 1 (some 54) (bs 16 95) hHeld ?_
      refine zT 5 (some 58) (bs 16 127) hHeld ?_
      refine zP 7 (some 60) (bs 16 255) ?_
      refine zT 8 (some 61) (bs 16 511) hHeld ?_
      refine one_ (i:=9) (N:=some 62) (bs 16 1023) rfl rfl (one_of HT_.out (by kernel_rfl)) (by decide) (fun K hK => ?_)
      refine i3_.goesF (o := .tmp 56) (caps := #[.pointer (some ⟨gea,0,none⟩),.pointer (some ⟨geb,0,none⟩),.pointer (some ⟨gem,0,none⟩)]) Tryz.func50 (by kernel_rfl) rfl #[.int .i64 (rd ak ag),.pointer (some ⟨gea,0,none⟩),.pointer (some ⟨geb,0,none⟩),.pointer (some ⟨gem,0,none⟩)] (by rfl) rfl rfl (by first|rfl|(go_simp;done)|(go_simp;rfl)) (by first|rfl|(simp;done)|(go_simp;done)|(go_simp;rfl)) ?_
      with_reducible refine(i3_.calls k2 _ _ ak _ _ al gea geb gem a1 a2 (rd ak ag) aY _ (cB b8.out (zB_ HB)) cx.out (cB b9.out (zB_ HB)) cy.out (kB BKea.out (zB_ HB)) (kB BKeb.out (zB_ HB)) (kB BKem.out (zB_ HB)) dI.out).mono ?_
      rintro e w' ⟨rfl,⟨nd,rfl⟩⟩
      refine⟨_,rfl,?_⟩
      refine hK.out _ _ ⟨(kC ac.out 0).trans rfl,(kC ac.out 1).trans rfl,(kC aa.out 0).trans rfl,(kC aa.out 1).trans rfl,((HB.out.cell (wL w _ aC)).trans aC),hHeld.2.2.2.2.2⟩ (fun hHeld => ?_)
      clear hK K
      refine zN (some 62) ?_
      refine zP 10 (some 63) (bs 16 2047) ?_
      refine zT 11 (some 64) (bs 16 4095) hHeld ?_
      refine one_ (i:=12) (N:=some 65) (bs 16 8191) rfl rfl (one_of HT_.out (by kernel_rfl)) (by decide) (fun K hK => ?_)
      refine value_ (w1 := ?_) (v := ?_) (by rfl) rfl ?_ ?_
      rotate_left 2
      ·go_simp
       constructor
       ·rfl
       rfl
      refine hK.out _ _ ⟨(kC (kA ac.out _) 0).trans rfl,(kC (kA ac.out _) 1).trans rfl,(kC (kA aa.out _) 0).trans rfl,(kC (kA aa.out _) 1).trans rfl,(World.cell?_alloc_lt _ _ _ (wL _ _ (((HB.out.cell (wL w _ aC)).trans aC)))).trans (((HB.out.cell (wL w _ aC)).trans aC)),(World.cell?_alloc_lt _ _ _ (wL _ _ (hHeld.2.2.2.2.2))).trans (hHeld.2.2.2.2.2)⟩ (fun hHeld => ?_)
      clear hK K
      refine zN (some 65) ?_
      refine last_ (i:=13) (N:=some 66) (bs 16 16383) rfl rfl (one_of HT_.out (by kernel_rfl)) (by decide) (fun K hK => ?_)
      refine Kd.R_append_step (Kd.int .i64) (w0:=w) w.heap.size (by rfl) (.tmp 54) (.tmp 65) 23 3 (.int .i64 0) 8 rfl Tryz.underlying23 info3 rfl (by decide) (by omega) u265000 aq (rd am aY) [.int .i64 (rd am aY)] (fun k_=>nL k_ (some aI) am aG∧nO k_ u265001) (fun _=>False) rfl rfl ?aP (fun _ hk=>hk.elim) ?aF ?aO ?aB ?aS ?aL ?_
      (case aP=>exact rfl)
      (case aB=>exact(zB_ HB))
      (case aF=>exact(fun k_ hk=>⟨Kd.fresh' (rX (zR_ aj)) k_ hk,Kd.fresh' (rX (zR_ ah)) k_ hk⟩))
      (case aO=>exact(zR_ ap))
      (case aS=>exact(bZ (zB_ HB)))
      (case aL=>have:=cO.out;omega)
      intro eh w45 ho hb hg hat
      rw [← cP.out] at ho
      replace aj:=A0_ (Kd.R_after (ok:=(fun k_=>nO k_ u265001)) (zmR aj (fun _ hk=>⟨hk.2,hk.1⟩)) hg hat)
      replace ah:=A0_ (Kd.R_after (ok:=(fun k_=>nL k_ (some aI) am aG)) (zR_ ah) hg hat)
      replace aa:=A0_ (blk_grown (g:=aA) (o := .cells #[.slice (some ba) ak.length aD,.slice aJ al.length aE] 25 (0,0)) (zK_ aa) hg (Kd.R_ne ap.out aa.out (by decide)))
      replace af:=A0_ (blk_grown (g:=az) (o := .cells #[.slice none 0 0,.slice none 0 0] 25 (0,0)) (zK_ af) hg (Kd.R_ne ap.out af.out (by decide)))
      replace ac:=A0_ (blk_grown (g:=an) (o := .cells #[u265000,u265001] 25 (0,0)) (zK_ ac) hg (Kd.R_ne ap.out ac.out (by decide)))
      replace HB:=A0_ (hb)
      have aH:=A0_ (ho)
      clear ap ho hb hg hat;obtain⟨au,av,cv⟩:=rS aH.out
      (first|subst cv|(injection cv with f1_ f2_ f3_;have f4_:=f1_.symm;have f5_:=f3_.symm;clear f1_ f2_ f3_;subst f4_;subst f5_))
      refine hK.out _ _ ?_
      clear hK K
      refine zN (some 66) ?_
      refine zP 14 (some 67) (bs 16 32767) ?_
      refine last_ (i:=15) (N:=none) (bs 16 65535) rfl rfl (one_of HT_.out (by kernel_rfl)) (by decide) (fun K hK => ?_)
      have ei:w45.cell? ⟨an,0,none⟩=some (u265000):=(kC ac.out 0).trans rfl
      have d4:=kF ac.out 0;have dq:=ax.out;have dr:=ay.out;have dt:=aQ.out;have du:=aT.out
      refine skip_ (w1 := ?_) (by rfl) rfl ?_ ?_
      rotate_left
      ·go_simp
       rfl
      refine hK.out _ _ ?_
      clear hK K
      refine done_ (done_of HT_.out (by kernel_rfl)) ?_
      try go_wp2
      have n0_:Aside0 (Kd.R (Kd.int .i64) 3 (w45.setCell ⟨an,0,none⟩ (.slice au ar.length av)) w.heap.size (fun k_=>nO k_ u265001∧nL k_ au ar av) (.slice (some aI) am.length aG) am):=⟨by(with_reducible repeat(first|apply rA|apply rN|apply rD));exact rM (rF (p:=⟨an,0,none⟩) (rY aj.out ac.out (by decide)) (fun _ hk=>hk.2) (.slice au ar.length av)) (fun _ hk=>⟨hk.1.1,hk.1.2⟩)⟩
      have n1_:Aside0 (Kd.R (Kd.int .i64) 3 (w45.setCell ⟨an,0,none⟩ (.slice au ar.length av)) w.heap.size (fun k_=>nL k_ (some aI) am aG∧nL k_ au ar av) u265001 ao):=⟨by(with_reducible repeat(first|apply rA|apply rN|apply rD));exact rM (rF (p:=⟨an,0,none⟩) (rY ah.out ac.out (by decide)) (fun _ hk=>hk.2) (.slice au ar.length av)) (fun _ hk=>⟨hk.1.1,hk.1.2⟩)⟩
      have n2_:Aside0 (Kd.R (Kd.int .i64) 3 (w45.setCell ⟨an,0,none⟩ (.slice au ar.length av)) w.heap.size (fun k_=>nL k_ (some aI) am aG∧nO k_ u265001) (.slice au ar.length av) ar):=⟨by(with_reducible repeat(first|apply rA|apply rN|apply rD));exact rM (rF (p:=⟨an,0,none⟩) (rY aH.out ac.out (by decide)) (fun _ hk=>hk.2) (.slice au ar.length av)) (fun _ hk=>⟨hk.1.1,hk.1.2⟩)⟩
      have n3_:Aside0 ((w45.setCell ⟨an,0,none⟩ (.slice au ar.length av)).heap[aA]? = some (.cells #[.slice (some ba) ak.length aD,.slice aJ al.length aE] 25 (0,0))):=⟨by refine zbf ?_ _ (hp:=by exact ax.out);exact zK_ aa⟩
      have n4_:Aside0 ((w45.setCell ⟨an,0,none⟩ (.slice au ar.length av)).heap[az]? = some (.cells #[.slice none 0 0,.slice none 0 0] 25 (0,0))):=⟨by refine zbf ?_ _ (hp:=by exact ay.out);exact zK_ af⟩
      have n5_:Aside0 ((w45.setCell ⟨an,0,none⟩ (.slice au ar.length av)).heap[an]? = some (.cells #[.slice au ar.length av,u265001] 25 (0,0))):=⟨by refine zbp (cs := #[u265000,u265001]) ?_ 0 _ rfl;exact zK_ ac⟩
      have n6_:Aside0 (Below w.heap.size w (w45.setCell ⟨an,0,none⟩ (.slice au ar.length av))):=⟨zB_ HB⟩
      (try clear aj);(try clear ah);(try clear aH);(try clear aa);(try clear af);(try clear ac);(try clear HB)
      generalize (w45.setCell ⟨an,0,none⟩ (.slice au ar.length av))=w48 at n0_ n1_ n2_ n3_ n4_ n5_ n6_ ⊢
      have aj:=n0_;have ah:=n1_;have aH:=n2_;have aa:=n3_;have af:=n4_;have ac:=n5_;have HB:=n6_;clear n0_ n1_ n2_ n3_ n4_ n5_ n6_
      replace aj:=A0_ (rD aj.out)
      replace ah:=A0_ (rD ah.out)
      replace aH:=A0_ (rD aH.out)
      replace aa:=A0_ (kD aa.out)
      replace af:=A0_ (kD af.out)
      replace ac:=A0_ (kD ac.out)
      replace HB:=A0_ (bD HB.out)
      have bQ:0≤(ag:Int):=zd
      have bR:ag<(al.length:Int):=zd
      obtain⟨bx,dk,aV⟩:=tI b9.out ag bQ bR;have aM:=aV
      cases dk
      try replace aV:=(HB.out.cell (wL w _ aV)).trans aV
      replace bQ:=eq_true bQ;replace bR:=eq_true bR
      have bU:0≤((rd al ag):Int):=zd
      have bV:(rd al ag)<(am.length:Int):=zd
      obtain⟨cU,dl,bm⟩:=tI (rR aj.out).2.2 (rd al ag) bU bV
      obtain rfl:aI=cU:=(by injection dl)
      replace bU:=eq_true bU;replace bV:=eq_true bV
      refine start_ (n:=14) (S:=fun w'=>w'.cell? ⟨an,0,none⟩=some (.slice au ar.length av)∧w'.cell? ⟨an,1,none⟩=some (u265001)∧w'.cell? ⟨aA,0,none⟩=some (.slice (some ba) ak.length aD)∧w'.cell? ⟨aA,1,none⟩=some (.slice (some bx) al.length aE)∧w'.cell? (bx.add (ag).toNat)=some (.int .i64 (rd al ag))∧w'.cell? (aI.add ((rd al ag)).toNat)=some (.int .i64 (rd am (rd al ag)))) (ds := [11,13]) (bs 14 0) (by kernel_rfl) rfl rfl ⟨(kC ac.out 0).trans rfl,(kC ac.out 1).trans rfl,(kC aa.out 0).trans rfl,(kC aa.out 1).trans rfl,((HB.out.cell (wL w _ aM)).trans aM),bm⟩ (fun hHeld => ?_);refine with_tabW ib_.tab15 ib_.bits15 (fun HT_ HW_ => ?_)
      generalize w48.drew=w49 at aj ah aH aa af ac HB aV bm hHeld ⊢
      refine zP 0 (some 68) (bs 14 1) ?_
      refine zP 2 (some 70) (bs 14 5) ?_
      refine zP 3 (some 71) (bs 14 13) ?_
      refine zP 5 (some 73) (bs 14 45) ?_
      refine zT 1 (some 69) (bs 14 47) hHeld ?_
      refine zT 4 (some 72) (bs 14 63) hHeld ?_
      refine zP 6 (some 74) (bs 14 127) ?_
      refine zT 7 (some 75) (bs 14 255) hHeld ?_
      refine zP 8 (some 76) (bs 14 511) ?_
      refine zT 9 (some 77) (bs 14 1023) hHeld ?_
      refine one_ (i:=10) (N:=some 78) (bs 14 2047) rfl rfl (one_of HT_.out (by kernel_rfl)) (by decide) (fun K hK => ?_)
      refine value_ (w1 := ?_) (v := ?_) (by rfl) rfl ?_ ?_
      rotate_left 2
      ·go_simp
       constructor
       ·rfl
       rfl
      refine hK.out _ _ ⟨(kC (kA ac.out _) 0).trans rfl,(kC (kA ac.out _) 1).trans rfl,(kC (kA aa.out _) 0).trans rfl,(kC (kA aa.out _) 1).trans rfl,(World.cell?_alloc_lt _ _ _ (wL _ _ (((HB.out.cell (wL w _ aM)).trans aM)))).trans (((HB.out.cell (wL w _ aM)).trans aM)),(World.cell?_alloc_lt _ _ _ (wL _ _ (hHeld.2.2.2.2.2))).trans (hHeld.2.2.2.2.2)⟩ (fun hHeld => ?_)
      clear hK K
      refine zN (some 78) ?_
      refine last_ (i:=11) (N:=some 79) (bs 14 4095) rfl rfl (one_of HT_.out (by kernel_rfl)) (by decide) (fun K hK => ?_)
      refine Kd.R_append_step (Kd.int .i64) (w0:=w) w.heap.size (by rfl) (.tmp 69) (.tmp 78) 23 3 (.int .i64 0) 8 rfl Tryz.underlying23 info3 rfl (by decide) (by omega) u265001 ao (rd am (rd al ag)) [.int .i64 (rd am (rd al ag))] (fun k_=>nL k_ (some aI) am aG∧nL k_ au ar av) (fun _=>False) rfl rfl ?aP (fun _ hk=>hk.elim) ?aF ?aO ?aB ?aS ?aL ?_
      (case aP=>exact rfl)
      (case aB=>exact(zB_ HB))
      (case aF=>exact(fun k_ hk=>⟨Kd.fresh' (rX (zR_ aj)) k_ hk,Kd.fresh' (rX (zR_ aH)) k_ hk⟩))
      (case aO=>exact(zR_ ah))
      (case aS=>exact(bZ (zB_ HB)))
      (case aL=>have:=cS.out;omega)
      intro ej w50 ho hb hg hat
      rw [← cT.out] at ho
      replace aj:=A0_ (Kd.R_after (ok:=(fun k_=>nL k_ au ar av)) (zmR aj (fun _ hk=>⟨hk.2,hk.1⟩)) hg hat)
      replace aa:=A0_ (blk_grown (g:=aA) (o := .cells #[.slice (some ba) ak.length aD,.slice (some bx) al.length aE] 25 (0,0)) (zK_ aa) hg (Kd.R_ne ah.out aa.out (by decide)))
      replace af:=A0_ (blk_grown (g:=az) (o := .cells #[.slice none 0 0,.slice none 0 0] 25 (0,0)) (zK_ af) hg (Kd.R_ne ah.out af.out (by decide)))
      replace ac:=A0_ (blk_grown (g:=an) (o := .cells #[.slice au ar.length av,u265001] 25 (0,0)) (zK_ ac) hg (Kd.R_ne ah.out ac.out (by decide)))
      replace aH:=A0_ (Kd.R_after (ok:=(fun k_=>nL k_ (some aI) am aG)) (zR_ aH) hg hat)
      replace HB:=A0_ (hb)
      have cf:=A0_ (ho)
      clear ah ho hb hg hat;obtain⟨bz,bB,cw⟩:=rS cf.out
      (first|subst cw|(injection cw with f1_ f2_ f3_;have f4_:=f1_.symm;have f5_:=f3_.symm;clear f1_ f2_ f3_;subst f4_;subst f5_))
      refine hK.out _ _ ?_
      clear hK K
      refine zN (some 79) ?_
      refine zP 12 (some 80) (bs 14 8191) ?_
      refine last_ (i:=13) (N:=none) (bs 14 16383) rfl rfl (one_of HT_.out (by kernel_rfl)) (by decide) (fun K hK => ?_)
      have ek:w50.cell? ⟨an,1,none⟩=some (u265001):=(kC ac.out 1).trans rfl
      have d5:=kF ac.out 1;have dv:=ax.out;have dw:=ay.out;have dx:=aQ.out;have dy:=aT.out
      refine skip_ (w1 := ?_) (by rfl) rfl ?_ ?_
      rotate_left
      ·go_simp
       rfl
      refine hK.out _ _ ?_
      clear hK K
      refine done_ (done_of HT_.out (by kernel_rfl)) ?_
      try go_wp2
      go_roundg k2
      case measure=>have:=aZ.out;have:=bj.out;omega
      case rel=>exact⟨(wrap64 (ag+1)),(ar),(bb),(.slice au ar.length av),(.slice bz bb.length bB),zt,H',⟨by have:=aZ.out;have:=bj.out;omega⟩,⟨by(try simp only [ab]);(with_reducible repeat(first|apply rA|apply rN|apply rD));exact rM (rF (p:=⟨an,1,none⟩) (rY aj.out ac.out (by decide)) (fun _ hk=>hk.2) (.slice bz bb.length bB)) (fun _ hk=>⟨hk.1.1,hk.1.2⟩)⟩,⟨by(try simp only [ab]);(with_reducible repeat(first|apply rA|apply rN|apply rD));exact rM (rF (p:=⟨an,1,none⟩) (rY aH.out ac.out (by decide)) (fun _ hk=>hk.2) (.slice bz bb.length bB)) (fun _ hk=>⟨hk.1.1,hk.1.2⟩)⟩,⟨by(try simp only [ab]);(with_reducible repeat(first|apply rA|apply rN|apply rD));exact rM (rF (p:=⟨an,1,none⟩) (rY cf.out ac.out (by decide)) (fun _ hk=>hk.2) (.slice bz bb.length bB)) (fun _ hk=>⟨hk.1.1,hk.1.2⟩)⟩,⟨by(try simp only [ab]);refine zbf ?_ _ (hp:=by exact ax.out);exact zK_ aa⟩,⟨by(try simp only [ab]);refine zbf ?_ _ (hp:=by exact ay.out);exact zK_ af⟩,⟨by(try simp only [ab]);refine zbp (cs := #[.slice au ar.length av,u265001]) ?_ 1 _ rfl;exact zK_ ac⟩,⟨zB_ HB⟩⟩
     rw [if_neg bk] at H;have br:=dF bk;(try simp only [ab] at br);clear bk;simp only [Option.some.injEq,Prod.mk.injEq] at H;obtain⟨rfl,rfl⟩:=H;have d6:=aQ.out;have d7:=ax.out;have d8:=aT.out;have d9:=ay.out;have dz:=zc0 ac;have dA:=zc1 ac;have dB:=kF ac.out 0;have dC:=kF ac.out 1;obtain⟨bC,bE,dn⟩:=rS ap.out;subst dn;have eb:=a5.out;have ec:=a4.out;have dD:=zc0 af;have dE:=zc1 af;have dG:=kF af.out 0;have dH:=kF af.out 1;obtain⟨bW,bX,dp⟩:=rS ah.out;subst dp
     go_wp2
     refine bodyPost_ret (results_cell_row rfl _ _ az 25 #[.slice bC aq.length bE,.slice bW ao.length bX] (0,0) _ rfl (by refine zbp (cs := #[.slice bC aq.length bE,.slice none 0 0]) ?_ 1 _ rfl;refine zbp (cs := #[.slice none 0 0,.slice none 0 0]) ?_ 0 _ rfl;exact zK_ af) Tryz.underlying25 rfl (by kernel_rfl)) rfl ?_
     exact⟨_,_,by first|rfl|(simp [*] <;> rfl),by(with_reducible repeat(first|apply rA|apply rN|apply rD));exact rM (rF (p:=⟨az,1,none⟩) (rF (p:=⟨az,0,none⟩) (rY ap.out af.out (by decide)) (fun _ hk=>hk.2) (.slice bC aq.length bE)) (fun _ hk=>hk.2) (.slice bW ao.length bX)) (fun _ hk=>hk.1.2),by(with_reducible repeat(first|apply rA|apply rN|apply rD));exact rM (rF (p:=⟨az,1,none⟩) (rF (p:=⟨az,0,none⟩) (rY ah.out af.out (by decide)) (fun _ hk=>hk.2) (.slice bC aq.length bE)) (fun _ hk=>hk.2) (.slice bW ao.length bX)) (fun _ hk=>hk.1.2),zB_ HB⟩
end Go.Proofs.YtjebcgbmlbemcaaGreatDoor.PFnExecuteContract
