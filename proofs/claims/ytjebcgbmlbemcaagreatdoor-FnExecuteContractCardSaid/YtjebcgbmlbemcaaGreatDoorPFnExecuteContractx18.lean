import Derived.Test.YtjebcgbmlbemcaaGreatDoorPFnExecuteContractx0
namespace Go.Proofs.YtjebcgbmlbemcaaGreatDoor.PFnExecuteContract
open Go.RowKit Go.Proofs.YtjebcgbmlbemcaaGreatDoorW.PrintWords Go.Proofs.YtjebcgbmlbemcaaGreatDoorW.PrintLast Go.Proofs.YtjebcgbmlbemcaaGreatDoorW.PrintMore
set_option maxHeartbeats 8000000
set_option maxRecDepth 100000
attribute [local go_sem] max2_int min2_int max_two min_two max_three min_three max_four min_four
set_option linter.unusedVariables false
set_option linter.unusedSimpArgs false
mutual
def s19_.l0:Nat→List Int→List Int→Int→Int→List Int→Int→Int→Option (List Int×List Int)
  | 0,_,_,_,_,_,_,_=>none
  | k+1,x0,x1,x2,x3,x9,ac,aa=>if aa<(x0.length:Int) then (if 0≤aa then (if aa<(x9.length:Int) then ((some (x9.set (aa:Int).toNat ac:List Int)).bind fun ab=>(if aa=x2 then (s19_.l0 k x0 x1 x2 x3 ab ac (wrap64 (aa+1))) else (if aa=x3 then (s19_.l0 k x0 x1 x2 x3 ab ac (wrap64 (aa+1))) else (s19_.l0 k x0 x1 x2 x3 ab (wrap64 (ac+1)) (wrap64 (aa+1)))))) else (none)) else (none)) else (s19_.l1 k x0 x1 x2 x3 x9 0 (([]:List Int)) (([]:List Int)))
def s19_.l1:Nat→List Int→List Int→Int→Int→List Int→Int→List Int→List Int→Option (List Int×List Int)
  | 0,_,_,_,_,_,_,_,_=>none
  | k+1,x0,x1,x2,x3,x9,aa,ab,ac=>if aa<(x0.length:Int) then (if aa=x2 then (s19_.l1 k x0 x1 x2 x3 x9 (wrap64 (aa+1)) ab ac) else (if aa=x3 then (s19_.l1 k x0 x1 x2 x3 x9 (wrap64 (aa+1)) ab ac) else (if 0≤aa then (if 0≤(rd x0 aa) then (if (rd x0 aa)<(x9.length:Int) then (if ab.length<17592186044416 then (if aa<(x1.length:Int) then (if 0≤(rd x1 aa) then (if (rd x1 aa)<(x9.length:Int) then (if ac.length<17592186044416 then (s19_.l1 k x0 x1 x2 x3 x9 (wrap64 (aa+1)) (ab ++ [rd x9 (rd x0 aa)]) (ac ++ [rd x9 (rd x1 aa)])) else (none)) else (none)) else (none)) else (none)) else (none)) else (none)) else (none)) else (none)))) else (some (ab,ac))
end
def s19_.f (k:Nat) (l0:List Int) (l1:List Int) (a2:Int) (a3:Int):Option (List Int×List Int):=if 0≤(l0.length:Int) then (if ((l0.length:Int):Int).toNat≤35184372088832 then (s19_.l0 k l0 l1 a2 a3 (List.replicate ((l0.length:Int):Int).toNat 0) 0 0) else (none)) else (none)
def s19_.T14:Bool×List (List Nat×List Nat):=(true,[([],[]),([0],[0]),([],[]),([],[]),([],[]),([3,4],[3,4]),([5],[5]),([2,6],[2,6]),([7],[7]),([8],[8]),([1,9],[1,9]),([0,1,2,3,4,5,6,7,8,9,10],[]),([11,10,10,0,1,2,3,4,5,6,7,8,9,10],[10,11])])
def s19_.B14:List Nat := [0,1,0,0,0,24,56,124,252,508,1023,2047,4095]
theorem s19_.tab14:rtab .any (opsOf Tryz.f55 14)=s19_.T14:=by kernel_rfl
theorem s19_.bits14:waitsOk s19_.T14.2 s19_.B14=true:=by kernel_rfl
def s19_.T15:Bool×List (List Nat×List Nat):=(true,[([],[]),([0],[0]),([],[]),([],[]),([],[]),([3,4],[3,4]),([5],[5]),([2,6],[2,6]),([7],[7]),([8],[8]),([1,9],[1,9]),([0,1,2,3,4,5,6,7,8,9,10],[]),([11,10,10,0,1,2,3,4,5,6,7,8,9,10],[10,11])])
def s19_.B15:List Nat := [0,1,0,0,0,24,56,124,252,508,1023,2047,4095]
theorem s19_.tab15:rtab .any (opsOf Tryz.f55 15)=s19_.T15:=by kernel_rfl
theorem s19_.bits15:waitsOk s19_.T15.2 s19_.B15=true:=by kernel_rfl
theorem s19_.calls (k:Nat) (A0:Option Addr) (c0:Nat) (l0:List Int) (A1:Option Addr) (c1:Nat) (l1:List Int) (a2:Int) (a3:Int) (r1:List Int) (r2:List Int) (w:World) (cx:Kd.C (Kd.int .i64) w A0 l0.length l0) (cy:l0.length≤c0) (cz:Kd.C (Kd.int .i64) w A1 l1.length l1) (cC:l1.length≤c1) (h:s19_.f k l0 l1 a2 a3=some (r1,r2)) :
    Calls Tryz.prog 55 #[.slice A0 l0.length c0,.slice A1 l1.length c1,.int .i64 a2,.int .i64 a3] w fun e w' => ∃ v0_ v1_:Value,e = .returned (.agg #[v0_,v1_])∧Kd.R (Kd.int .i64) 3 w' w.heap.size (fun k_=>nO k_ v1_) v0_ r1∧Kd.R (Kd.int .i64) 3 w' w.heap.size (fun k_=>nO k_ v0_) v1_ r2∧Below w.heap.size w w':=by
 have dI:=Tryz.underlying25;have dk:=A0_ cx;have dQ:=A0_ cy;clear cx cy;have dl:=A0_ cz;have dR:=A0_ cC;clear cz cC
 have HB:=A0_ (Below.refl w.heap.size w)
 have H:(if 0≤(l0.length:Int) then (if ((l0.length:Int):Int).toNat≤35184372088832 then (s19_.l0 k l0 l1 a2 a3 (List.replicate ((l0.length:Int):Int).toNat 0) 0 0) else (none)) else (none))=some (r1,r2):=h
 clear h
 have c5:=zpc H;replace H:=zph H
 have bX:=eq_true c5;have bY:=dT c5;clear c5
 have c6:=zpc H;replace H:=zph H
 have b5:=eq_true c6;have b6:=dT c6;clear c6
 obtain⟨b7,be⟩ : ∃ y_:List Int,y_=(List.replicate ((l0.length:Int):Int).toNat 0):=⟨_,rfl⟩
 replace H:(s19_.l0 k l0 l1 a2 a3 b7 0 0)=some (r1,r2):=zH be H
 have bL:=A0_ be;clear be;have H':=A0_ H;clear H
 go_enter Tryz.func55,Tryz.ntmps55
 go_wp2_with (first|((with_reducible refine gD (N:=8) rfl ?_);refine zX (N:=8) (cs := #[.slice none 0 0,.slice none 0 0]) (t:=25) ?_;intro au hg w7 hbox hb;have aa:=A0_ (hbox);have dn:=zG hg HB;have dp:=zG hg HB;replace HB:=zB HB hb;clear hb hbox hg)|((with_reducible refine gD (N:=16) rfl ?_);refine Kd.R_make (Kd.int .i64) _ 3 rfl (N:=16) rfl 23 _ _ rfl (l0.length:Int) rfl rfl Tryz.underlying23 (.int .i64 0) 8 info3 rfl (by decide) (by omega) 0 (ok:=fun _=>True) (okp:=fun _=>True) rfl (fun _ hk=>hk) trivial (zd) (Nat.le_trans (Nat.mul_le_mul_right _ (zd:(l0.length:Int).toNat≤35184372088832)) (by omega)) (Below.refl _ _) (Nat.le_refl _) ?_;intro bf w8 bu hb hg_ hnew_;clear hg_ hnew_;(first|rw [← bL.out] at bu|(simp only [Int.reduceToNat] at bu;rw [← bL.out] at bu));have ce:=A0_ (rL bu (bZ (zB_ HB)));replace aa:=zK aa hb;replace HB:=zB HB hb;clear hb bu))
 go_loopg [10,11] k (fun kq v10 v11 w' => ∃ (aj:List Int) (ao:Int) (ag:Int),v10 = .int .i64 ao∧v11 = .int .i64 ag∧Aside0 (s19_.l0 kq l0 l1 a2 a3 aj ao ag=some (r1,r2))∧Aside0 (kq≤k)∧Aside0 (Kd.R (Kd.int .i64) 3 w' w.heap.size (fun _=>True) bf aj)∧Aside0 (w'.heap[au]? = some (.cells #[(.slice none 0 0),(.slice none 0 0)] 25 (0,0)))∧Aside0 (Below w.heap.size w w'))
 case atStart=>exact⟨(b7),(0),(0),zt,zt,H',⟨Nat.le_refl _⟩,⟨zR_ ce⟩,⟨zK_ aa⟩,⟨zB_ HB⟩⟩
 case round =>
  clear H';(try clear c1);(try clear c5);(try clear bX);(try clear bY);(try clear c6);(try clear b5);(try clear b6);obtain⟨aj,ao,ag,rfl,rfl,HA,aH,af,aa,HB⟩:=hrel
  cases gk with
  | zero=>exact absurd HA.out (by simp [s19_.l0])
  | succ k1 =>
   have H:=HA.out;clear HA;simp only [s19_.l0] at H
   by_cases aY:ag<(l0.length:Int)
   ·rw [if_pos aY] at H
    have bM:=dT aY;clear aY
    have cE:=zpc H;replace H:=zph H
    have dq:=dT cE;clear cE
    have cF:=zpc H;replace H:=zph H
    have dr:=dT cF;clear cF
    obtain⟨aE,bg⟩ : ∃ y_:List Int,y_=(aj.set (ag:Int).toNat ao):=⟨_,rfl⟩
    replace H:(if ag=a2 then (s19_.l0 k1 l0 l1 a2 a3 aE ao (wrap64 (ag+1))) else (if ag=a3 then (s19_.l0 k1 l0 l1 a2 a3 aE ao (wrap64 (ag+1))) else (s19_.l0 k1 l0 l1 a2 a3 aE (wrap64 (ao+1)) (wrap64 (ag+1)))))=some (r1,r2):=zH bg H
    have bh:=A0_ bg;clear bg
    by_cases aZ:ag=a2
    ·rw [if_pos aZ] at H
     have cf:(ag == a2)=true:=beq_iff_eq.mpr aZ
     have cg:(ag != a2)=false:=bne_eq_false_iff_eq.mpr aZ
     clear aZ;have H':=A0_ H;clear H
     have aI:0≤(ag:Int):=zd
     have aJ:(ag:Int)<((aj.length:Int):Int):=zd
     obtain⟨az,a4,aK,aM,gl13,cl13,HG13⟩:=Kd.R_form af.out (by omega)
     (first|cases aK|(injection aK with ea_ en_ ec_;(first|subst ea_|(injection ea_ with ea_;subst ea_));subst ec_;clear en_))
     have GB13:=A0_ aM;have GG13:=A0_ HG13;clear aM gl13 HG13
     obtain⟨bv,bx⟩:=Kd.R_celln 0 af.out (ag:Int) aI aJ
     replace aI:=eq_true aI;replace aJ:=eq_true aJ
     have HP15:=Kd.R_putg af.out (ag:Int) ao
     go_wp2_with (first|((with_reducible refine gS (t:=3) (p:=26) rfl ?_);refine store_event (t:=3) (p:=26) (v := ?vo_w16) (w1:=(wr.setCell ⟨az,(ag:Int).toNat,none⟩ (.int .i64 ao))) ?hg ?ho ?hn ?hr ?_;(case ho=>rfl);(case hg=>rfl);(case hn=>rfl);(case hr=>first|(go_simp;done)|(go_simp;rfl));intro w16 hw;have hg:wr.grownBy w16 (some az):=(by rw [hw];exact HP15.2);have hp_:Kd.R (Kd.int .i64) 3 w16 w.heap.size (fun _=>True) (.slice (some ⟨az,0,none⟩) aj.length a4) aE:=(by rw [hw,bh.out];exact HP15.1);clear HP15;replace aa:=A0_ (blk_grown (g:=au) (o := .cells #[.slice none 0 0,.slice none 0 0] 25 (0,0)) (zK_ aa) hg (Kd.R_ne af.out aa.out (by decide)));replace af:=A0_ (hp_);replace HB:=A0_ ((by rw [hw];exact bS (HB.out) GB13.out:Below w.heap.size w w16));clear hg hw hp_))
     go_roundg k1
     case measure=>have:=aH.out;omega
     case rel=>exact⟨(aE),(ao),(wrap64 (ag+1)),zt,zt,H',⟨by have:=aH.out;omega⟩,⟨zR_ af⟩,⟨zK_ aa⟩,⟨zB_ HB⟩⟩
    rw [if_neg aZ] at H
    have cf:(ag == a2)=false:=beq_eq_false_iff_ne.mpr aZ
    have cg:(ag != a2)=true:=bne_iff_ne.mpr aZ
    by_cases a5:ag=a3
    ·rw [if_pos a5] at H
     have ch:(ag == a3)=true:=beq_iff_eq.mpr a5
     have ci:(ag != a3)=false:=bne_eq_false_iff_eq.mpr a5
     clear a5;have H':=A0_ H;clear H
     have aI:0≤(ag:Int):=zd
     have aJ:(ag:Int)<((aj.length:Int):Int):=zd
     obtain⟨az,a4,aK,aM,gl13,cl13,HG13⟩:=Kd.R_form af.out (by omega)
     (first|cases aK|(injection aK with ea_ en_ ec_;(first|subst ea_|(injection ea_ with ea_;subst ea_));subst ec_;clear en_))
     have GB13:=A0_ aM;have GG13:=A0_ HG13;clear aM gl13 HG13
     obtain⟨bv,bx⟩:=Kd.R_celln 0 af.out (ag:Int) aI aJ
     replace aI:=eq_true aI;replace aJ:=eq_true aJ
     have HP18:=Kd.R_putg af.out (ag:Int) ao
     go_wp2_with (first|((with_reducible refine gS (t:=3) (p:=26) rfl ?_);refine store_event (t:=3) (p:=26) (v := ?vo_w19) (w1:=(wr.setCell ⟨az,(ag:Int).toNat,none⟩ (.int .i64 ao))) ?hg ?ho ?hn ?hr ?_;(case ho=>rfl);(case hg=>rfl);(case hn=>rfl);(case hr=>first|(go_simp;done)|(go_simp;rfl));intro w19 hw;have hg:wr.grownBy w19 (some az):=(by rw [hw];exact HP18.2);have hp_:Kd.R (Kd.int .i64) 3 w19 w.heap.size (fun _=>True) (.slice (some ⟨az,0,none⟩) aj.length a4) aE:=(by rw [hw,bh.out];exact HP18.1);clear HP18;replace aa:=A0_ (blk_grown (g:=au) (o := .cells #[.slice none 0 0,.slice none 0 0] 25 (0,0)) (zK_ aa) hg (Kd.R_ne af.out aa.out (by decide)));replace af:=A0_ (hp_);replace HB:=A0_ ((by rw [hw];exact bS (HB.out) GB13.out:Below w.heap.size w w19));clear hg hw hp_))
     go_roundg k1
     case measure=>have:=aH.out;omega
     case rel=>exact⟨(aE),(ao),(wrap64 (ag+1)),zt,zt,H',⟨by have:=aH.out;omega⟩,⟨zR_ af⟩,⟨zK_ aa⟩,⟨zB_ HB⟩⟩
    rw [if_neg a5] at H
    have ch:(ag == a3)=false:=beq_eq_false_iff_ne.mpr a5
    have ci:(ag != a3)=true:=bne_iff_ne.mpr a5
    have H':=A0_ H;clear H
    have aI:0≤(ag:Int):=zd
    have aJ:(ag:Int)<((aj.length:Int):Int):=zd
    obtain⟨az,a4,aK,aM,gl13,cl13,HG13⟩:=Kd.R_form af.out (by omega)
    (first|cases aK|(injection aK with ea_ en_ ec_;(first|subst ea_|(injection ea_ with ea_;subst ea_));subst ec_;clear en_))
    have GB13:=A0_ aM;have GG13:=A0_ HG13;clear aM gl13 HG13
    obtain⟨bv,bx⟩:=Kd.R_celln 0 af.out (ag:Int) aI aJ
    replace aI:=eq_true aI;replace aJ:=eq_true aJ
    have HP20:=Kd.R_putg af.out (ag:Int) ao
    go_wp2_with (first|((with_reducible refine gS (t:=3) (p:=26) rfl ?_);refine store_event (t:=3) (p:=26) (v := ?vo_w21) (w1:=(wr.setCell ⟨az,(ag:Int).toNat,none⟩ (.int .i64 ao))) ?hg ?ho ?hn ?hr ?_;(case ho=>rfl);(case hg=>rfl);(case hn=>rfl);(case hr=>first|(go_simp;done)|(go_simp;rfl));intro w21 hw;have hg:wr.grownBy w21 (some az):=(by rw [hw];exact HP20.2);have hp_:Kd.R (Kd.int .i64) 3 w21 w.heap.size (fun _=>True) (.slice (some ⟨az,0,none⟩) aj.length a4) aE:=(by rw [hw,bh.out];exact HP20.1);clear HP20;replace aa:=A0_ (blk_grown (g:=au) (o := .cells #[.slice none 0 0,.slice none 0 0] 25 (0,0)) (zK_ aa) hg (Kd.R_ne af.out aa.out (by decide)));replace af:=A0_ (hp_);replace HB:=A0_ ((by rw [hw];exact bS (HB.out) GB13.out:Below w.heap.size w w21));clear hg hw hp_))
    go_roundg k1
    case measure=>have:=aH.out;omega
    case rel=>exact⟨(aE),(wrap64 (ao+1)),(wrap64 (ag+1)),zt,zt,H',⟨by have:=aH.out;omega⟩,⟨zR_ af⟩,⟨zK_ aa⟩,⟨zB_ HB⟩⟩
   rw [if_neg aY] at H;have bM:=dF aY;clear aY
   obtain⟨aN,bi⟩ : ∃ y_:List Int,y_=(([]:List Int)):=⟨_,rfl⟩
   replace H:(s19_.l1 k1 l0 l1 a2 a3 aj 0 aN (([]:List Int)))=some (r1,r2):=zH bi H
   have bO:=A0_ bi;clear bi
   obtain⟨aU,bj⟩ : ∃ y_:List Int,y_=(([]:List Int)):=⟨_,rfl⟩
   replace H:(s19_.l1 k1 l0 l1 a2 a3 aj 0 aN aU)=some (r1,r2):=zH bj H
   have bP:=A0_ bj;clear bj;have H':=A0_ H;clear H
   go_wp2_with (first|((with_reducible refine gD (N:=37) rfl ?_);refine Kd.R_lit (Kd.int .i64) _ 3 ?hg (N:=37) ?hd (xs:=([]:List Int)) (inner := []) (ok:=fun _=>True) (okp:=fun _=>True) ?hr ?hp (fun _ hk=>hk) trivial (Below.refl _ _) (Nat.le_refl _) (by simp) ?_;(case hd=>rfl);(case hg=>rfl);(case hr=>first|(go_simp;done)|(go_simp;rfl));(case hp=>exact(Reps.none _ _));intro dJ w22 aV hb hg_ hnew_;clear hg_ hnew_;(first|rw [← bO.out] at aV|(simp only [Int.reduceToNat] at aV;rw [← bO.out] at aV));have aG:=A0_ (rL (Kd.R_new' aV (rX (zR_ af))) (bZ (zB_ HB)));replace af:=A0_ (Kd.R_elder' (zR_ af) (Kd.R_base aV) hb);replace aa:=zK aa hb;replace HB:=zB HB hb;clear hb aV)|((with_reducible refine gD (N:=38) rfl ?_);refine Kd.R_lit (Kd.int .i64) _ 3 ?hg (N:=38) ?hd (xs:=([]:List Int)) (inner := []) (ok:=fun _=>True) (okp:=fun _=>True) ?hr ?hp (fun _ hk=>hk) trivial (Below.refl _ _) (Nat.le_refl _) (by simp) ?_;(case hd=>rfl);(case hg=>rfl);(case hr=>first|(go_simp;done)|(go_simp;rfl));(case hp=>exact(Reps.none _ _));intro dK w24 aQ hb hg_ hnew_;clear hg_ hnew_;(first|rw [← bP.out] at aQ|(simp only [Int.reduceToNat] at aQ;rw [← bP.out] at aQ));have aX:=A0_ (rL (Kd.R_new' (Kd.R_new' aQ (rX (zR_ af))) (rX (zR_ aG))) (bZ (zB_ HB)));replace af:=A0_ (Kd.R_elder' (zR_ af) (Kd.R_base aQ) hb);replace aG:=A0_ (Kd.R_elder' (zR_ aG) (Kd.R_base aQ) hb);replace aa:=zK aa hb;replace HB:=zB HB hb;clear hb aQ;obtain⟨bk,bl,cP⟩:=rS aX.out;subst cP;obtain⟨a6,a7,cQ⟩:=rS aG.out;subst cQ)|((with_reducible refine gD (N:=12) rfl ?_);refine zX (N:=12) (cs := #[.slice none 0 0,.slice none 0 0]) (t:=25) ?_;intro ai hg w28 hbox hb;replace af:=zR af hb;replace aG:=zR aG hb;replace aX:=zR aX hb;have ab:=A0_ (hbox);have dt:=zG hg HB;have du:=zG hg HB;replace HB:=zB HB hb;have ar:=zL hg aa;have aA:=zM hg aa;replace aa:=zK aa hb;clear hb hbox hg;have dv:=aA.out;have dw:=ar.out;have bR:=zc0 ab;have bU:=zc1 ab;have bV:=kF ab.out 0;have bW:=kF ab.out 1))
   go_loopg [13] k1 (fun kq v13 w' => ∃ (ac:Int) (al:List Int) (ak:List Int) (u568000:Value) (u568001:Value),v13 = .int .i64 ac∧Aside0 (s19_.l1 kq l0 l1 a2 a3 aj ac al ak=some (r1,r2))∧Aside0 (kq≤k1)∧Aside0 (Kd.R (Kd.int .i64) 3 w' w.heap.size (fun k_=>nO k_ u568000∧nO k_ u568001) bf aj)∧Aside0 (Kd.R (Kd.int .i64) 3 w' w.heap.size (fun k_=>nO k_ bf∧nO k_ u568001) u568000 al)∧Aside0 (Kd.R (Kd.int .i64) 3 w' w.heap.size (fun k_=>nO k_ bf∧nO k_ u568000) u568001 ak)∧Aside0 (w'.heap[au]? = some (.cells #[(.slice none 0 0),(.slice none 0 0)] 25 (0,0)))∧Aside0 (w'.heap[ai]? = some (.cells #[u568000,u568001] 25 (0,0)))∧Aside0 (Below w.heap.size w w'))
   case atStart=>exact⟨(0),(aN),(aU),(.slice a6 aN.length a7),(.slice bk aU.length bl),zt,H',⟨Nat.le_refl _⟩,⟨by(with_reducible repeat(first|apply rA|apply rN|apply rD));exact rM (rF (p:=⟨ai,1,none⟩) (rF (p:=⟨ai,0,none⟩) (rY af.out ab.out (by decide)) (fun _ hk=>hk.2) (.slice a6 aN.length a7)) (fun _ hk=>hk.2) (.slice bk aU.length bl)) (fun _ hk=>⟨hk.1.1.2,hk.1.2⟩)⟩,⟨by(with_reducible repeat(first|apply rA|apply rN|apply rD));exact rM (rF (p:=⟨ai,1,none⟩) (rF (p:=⟨ai,0,none⟩) (rY aG.out ab.out (by decide)) (fun _ hk=>hk.2) (.slice a6 aN.length a7)) (fun _ hk=>hk.2) (.slice bk aU.length bl)) (fun _ hk=>⟨hk.1.1.2,hk.1.2⟩)⟩,⟨by(with_reducible repeat(first|apply rA|apply rN|apply rD));exact rM (rF (p:=⟨ai,1,none⟩) (rF (p:=⟨ai,0,none⟩) (rY aX.out ab.out (by decide)) (fun _ hk=>hk.2) (.slice a6 aN.length a7)) (fun _ hk=>hk.2) (.slice bk aU.length bl)) (fun _ hk=>⟨hk.1.1.2,hk.1.2⟩)⟩,⟨by refine zbf ?_ _ (hp:=by exact ar.out);refine zbf ?_ _ (hp:=by exact ar.out);exact zK_ aa⟩,⟨by refine zbp (cs := #[.slice a6 aN.length a7,.slice none 0 0]) ?_ 1 _ rfl;refine zbp (cs := #[.slice none 0 0,.slice none 0 0]) ?_ 0 _ rfl;exact zK_ ab⟩,⟨zB_ HB⟩⟩
   case round =>
    clear H';(try clear c1);(try clear c5);(try clear bX);(try clear bY);(try clear c6);(try clear b5);(try clear b6);(try clear aY);(try clear bM);(try clear bR);(try clear bU);(try clear bV);(try clear bW);obtain⟨ac,al,ak,u568000,u568001,rfl,HA,ba,af,am,ah,aa,ab,HB⟩:=hrel
    cases gk with
    | zero=>exact absurd HA.out (by simp [s19_.l1])
    | succ k2 =>
     have H:=HA.out;clear HA;simp only [s19_.l1] at H
     by_cases bb:ac<(l0.length:Int)
     ·rw [if_pos bb] at H
      have cj:=dT bb;clear bb
      by_cases a8:ac=a2
      ·rw [if_pos a8] at H
       have ck:(ac == a2)=true:=beq_iff_eq.mpr a8
       have cl:(ac != a2)=false:=bne_eq_false_iff_eq.mpr a8
       clear a8;have H':=A0_ H;clear H
       go_wp2
       go_roundg k2
       case measure=>have:=aH.out;have:=ba.out;omega
       case rel=>exact⟨(wrap64 (ac+1)),(al),(ak),(u568000),(u568001),zt,H',⟨by have:=aH.out;have:=ba.out;omega⟩,⟨zR_ af⟩,⟨zR_ am⟩,⟨zR_ ah⟩,⟨zK_ aa⟩,⟨zK_ ab⟩,⟨zB_ HB⟩⟩
      rw [if_neg a8] at H
      have ck:(ac == a2)=false:=beq_eq_false_iff_ne.mpr a8
      have cl:(ac != a2)=true:=bne_iff_ne.mpr a8
      by_cases a9:ac=a3
      ·rw [if_pos a9] at H
       have cm:(ac == a3)=true:=beq_iff_eq.mpr a9
       have cn:(ac != a3)=false:=bne_eq_false_iff_eq.mpr a9
       clear a9;have H':=A0_ H;clear H
       go_wp2
       go_roundg k2
       case measure=>have:=aH.out;have:=ba.out;omega
       case rel=>exact⟨(wrap64 (ac+1)),(al),(ak),(u568000),(u568001),zt,H',⟨by have:=aH.out;have:=ba.out;omega⟩,⟨zR_ af⟩,⟨zR_ am⟩,⟨zR_ ah⟩,⟨zK_ aa⟩,⟨zK_ ab⟩,⟨zB_ HB⟩⟩
      rw [if_neg a9] at H
      have cm:(ac == a3)=false:=beq_eq_false_iff_ne.mpr a9
      have cn:(ac != a3)=true:=bne_iff_ne.mpr a9
      have cG:=zpc H;replace H:=zph H
      have dx:=dT cG;clear cG
      have cH:=zpc H;replace H:=zph H
      have dy:=dT cH;clear cH
      have cI:=zpc H;replace H:=zph H
      have dz:=dT cI;clear cI
      have cJ:=zpc H;replace H:=zph H
      have cp:=A0_ cJ;clear cJ
      obtain⟨an,bm⟩ : ∃ y_:List Int,y_=(al ++ [rd aj (rd l0 ac)]):=⟨_,rfl⟩
      replace H:(if ac<(l1.length:Int) then (if 0≤(rd l1 ac) then (if (rd l1 ac)<(aj.length:Int) then (if ak.length<17592186044416 then (s19_.l1 k2 l0 l1 a2 a3 aj (wrap64 (ac+1)) an (ak ++ [rd aj (rd l1 ac)])) else (none)) else (none)) else (none)) else (none))=some (r1,r2):=zH bm H
      have cq:=A0_ bm;clear bm
      have cK:=zpc H;replace H:=zph H
      have dA:=dT cK;clear cK
      have cL:=zpc H;replace H:=zph H
      have dB:=dT cL;clear cL
      have cM:=zpc H;replace H:=zph H
      have dC:=dT cM;clear cM
      have cO:=zpc H;replace H:=zph H
      have cr:=A0_ cO;clear cO
      obtain⟨aW,bn⟩ : ∃ y_:List Int,y_=(ak ++ [rd aj (rd l1 ac)]):=⟨_,rfl⟩
      replace H:(s19_.l1 k2 l0 l1 a2 a3 aj (wrap64 (ac+1)) an aW)=some (r1,r2):=zH bn H
      have ct:=A0_ bn;clear bn;have H':=A0_ H;clear H
      try go_wp2
      replace af:=A0_ (rD af.out)
      replace am:=A0_ (rD am.out)
      replace ah:=A0_ (rD ah.out)
      replace aa:=A0_ (kD aa.out)
      replace ab:=A0_ (kD ab.out)
      replace HB:=A0_ (bD HB.out)
      have bz:0≤(ac:Int):=zd
      have bB:ac<(l0.length:Int):=zd
      obtain⟨cu,cR,aC⟩:=tI dk.out ac bz bB;have ax:=aC
      cases cR
      try replace aC:=(HB.out.cell (wL w _ aC)).trans aC
      replace bz:=eq_true bz;replace bB:=eq_true bB;obtain⟨dL,aT,b8⟩:=rS af.out
      (first|subst b8|(injection b8 with f1_ f2_ f3_;have f4_:=f1_.symm;have f5_:=f3_.symm;clear f1_ f2_ f3_;subst f4_;subst f5_))
      have bC:0≤((rd l0 ac):Int):=zd
      have bE:(rd l0 ac)<(aj.length:Int):=zd
      obtain⟨aw,cS,bc⟩:=tI (rR af.out).2.2 (rd l0 ac) bC bE
      cases cS
      replace bC:=eq_true bC;replace bE:=eq_true bE
      refine start_ (n:=13) (S:=fun w'=>w'.cell? ⟨ai,0,none⟩=some (u568000)∧w'.cell? ⟨ai,1,none⟩=some (u568001)∧w'.cell? (cu.add (ac).toNat)=some (.int .i64 (rd l0 ac))∧w'.cell? (aw.add ((rd l0 ac)).toNat)=some (.int .i64 (rd aj (rd l0 ac)))) (ds := [10,12]) (bs 13 0) (by kernel_rfl) rfl rfl ⟨(kC ab.out 0).trans rfl,(kC ab.out 1).trans rfl,((HB.out.cell (wL w _ ax)).trans ax),bc⟩ (fun hHeld => ?_);refine with_tabW s19_.tab14 s19_.bits14 (fun HT_ HW_ => ?_)
      generalize wr.drew=w42 at af am ah aa ab HB aC bc hHeld ⊢
      refine zP 0 (some 54) (bs 13 1) ?_
      refine zP 2 (some 56) (bs 13 5) ?_
      refine zP 3 (some 57) (bs 13 13) ?_
      refine zP 4 (some 58) (bs 13 29) ?_
      refine zP 5 (some 59) (bs 13 61) ?_
      refine zT 1 (some 55) (bs 13 63) hHeld ?_
      refine zT 6 (some 60) (bs 13 127) hHeld ?_
      refine zP 7 (some 61) (bs 13 255) ?_
      refine zT 8 (some 62) (bs 13 511) hHeld ?_
      refine one_ (i:=9) (N:=some 63) (bs 13 1023) rfl rfl (one_of HT_.out (by kernel_rfl)) (by decide) (fun K hK => ?_)
      refine value_ (w1 := ?_) (v := ?_) (by rfl) rfl ?_ ?_
      rotate_left 2
      ·go_simp
       constructor
       ·rfl
       rfl
      refine hK.out _ _ ⟨(kC (kA ab.out _) 0).trans rfl,(kC (kA ab.out _) 1).trans rfl,(World.cell?_alloc_lt _ _ _ (wL _ _ (((HB.out.cell (wL w _ ax)).trans ax)))).trans (((HB.out.cell (wL w _ ax)).trans ax)),(World.cell?_alloc_lt _ _ _ (wL _ _ (hHeld.2.2.2))).trans (hHeld.2.2.2)⟩ (fun hHeld => ?_)
      clear hK K
      refine zN (some 63) ?_
      refine last_ (i:=10) (N:=some 64) (bs 13 2047) rfl rfl (one_of HT_.out (by kernel_rfl)) (by decide) (fun K hK => ?_)
      refine Kd.R_append_step (Kd.int .i64) (w0:=w) w.heap.size (by rfl) (.tmp 55) (.tmp 63) 23 3 (.int .i64 0) 8 rfl Tryz.underlying23 info3 rfl (by decide) (by omega) u568000 al (rd aj (rd l0 ac)) [.int .i64 (rd aj (rd l0 ac))] (fun k_=>nL k_ (some aw) aj aT∧nO k_ u568001) (fun _=>False) rfl rfl ?aP (fun _ hk=>hk.elim) ?aF ?aO ?aB ?aS ?aL ?_
      (case aP=>exact rfl)
      (case aB=>exact(zB_ HB))
      (case aF=>exact(fun k_ hk=>⟨Kd.fresh' (rX (zR_ af)) k_ hk,Kd.fresh' (rX (zR_ ah)) k_ hk⟩))
      (case aO=>exact(zR_ am))
      (case aS=>exact(bZ (zB_ HB)))
      (case aL=>have:=cp.out;omega)
      intro dM w44 ho hb hg hat
      rw [← cq.out] at ho
      replace af:=A0_ (Kd.R_after (ok:=(fun k_=>nO k_ u568001)) (zmR af (fun _ hk=>⟨hk.2,hk.1⟩)) hg hat)
      replace ah:=A0_ (Kd.R_after (ok:=(fun k_=>nL k_ (some aw) aj aT)) (zR_ ah) hg hat)
      replace aa:=A0_ (blk_grown (g:=au) (o := .cells #[.slice none 0 0,.slice none 0 0] 25 (0,0)) (zK_ aa) hg (Kd.R_ne am.out aa.out (by decide)))
      replace ab:=A0_ (blk_grown (g:=ai) (o := .cells #[u568000,u568001] 25 (0,0)) (zK_ ab) hg (Kd.R_ne am.out ab.out (by decide)))
      replace HB:=A0_ (hb)
      have av:=A0_ (ho)
      clear am ho hb hg hat;obtain⟨ap,aq,b9⟩:=rS av.out
      (first|subst b9|(injection b9 with f1_ f2_ f3_;have f4_:=f1_.symm;have f5_:=f3_.symm;clear f1_ f2_ f3_;subst f4_;subst f5_))
      refine hK.out _ _ ?_
      clear hK K
      refine zN (some 64) ?_
      refine zP 11 (some 65) (bs 13 4095) ?_
      refine last_ (i:=12) (N:=none) (bs 13 8191) rfl rfl (one_of HT_.out (by kernel_rfl)) (by decide) (fun K hK => ?_)
      have dN:w44.cell? ⟨ai,0,none⟩=some (u568000):=(kC ab.out 0).trans rfl
      have dD:=kF ab.out 0;have cX:=ar.out;have cY:=aA.out
      refine skip_ (w1 := ?_) (by rfl) rfl ?_ ?_
      rotate_left
      ·go_simp
       rfl
      refine hK.out _ _ ?_
      clear hK K
      refine done_ (done_of HT_.out (by kernel_rfl)) ?_
      try go_wp2
      have n0_:Aside0 (Kd.R (Kd.int .i64) 3 (w44.setCell ⟨ai,0,none⟩ (.slice ap an.length aq)) w.heap.size (fun k_=>nO k_ u568001∧nL k_ ap an aq) (.slice (some aw) aj.length aT) aj):=⟨by(with_reducible repeat(first|apply rA|apply rN|apply rD));exact rM (rF (p:=⟨ai,0,none⟩) (rY af.out ab.out (by decide)) (fun _ hk=>hk.2) (.slice ap an.length aq)) (fun _ hk=>⟨hk.1.1,hk.1.2⟩)⟩
      have n1_:Aside0 (Kd.R (Kd.int .i64) 3 (w44.setCell ⟨ai,0,none⟩ (.slice ap an.length aq)) w.heap.size (fun k_=>nL k_ (some aw) aj aT∧nL k_ ap an aq) u568001 ak):=⟨by(with_reducible repeat(first|apply rA|apply rN|apply rD));exact rM (rF (p:=⟨ai,0,none⟩) (rY ah.out ab.out (by decide)) (fun _ hk=>hk.2) (.slice ap an.length aq)) (fun _ hk=>⟨hk.1.1,hk.1.2⟩)⟩
      have n2_:Aside0 (Kd.R (Kd.int .i64) 3 (w44.setCell ⟨ai,0,none⟩ (.slice ap an.length aq)) w.heap.size (fun k_=>nL k_ (some aw) aj aT∧nO k_ u568001) (.slice ap an.length aq) an):=⟨by(with_reducible repeat(first|apply rA|apply rN|apply rD));exact rM (rF (p:=⟨ai,0,none⟩) (rY av.out ab.out (by decide)) (fun _ hk=>hk.2) (.slice ap an.length aq)) (fun _ hk=>⟨hk.1.1,hk.1.2⟩)⟩
      have n3_:Aside0 ((w44.setCell ⟨ai,0,none⟩ (.slice ap an.length aq)).heap[au]? = some (.cells #[.slice none 0 0,.slice none 0 0] 25 (0,0))):=⟨by refine zbf ?_ _ (hp:=by exact ar.out);exact zK_ aa⟩
      have n4_:Aside0 ((w44.setCell ⟨ai,0,none⟩ (.slice ap an.length aq)).heap[ai]? = some (.cells #[.slice ap an.length aq,u568001] 25 (0,0))):=⟨by refine zbp (cs := #[u568000,u568001]) ?_ 0 _ rfl;exact zK_ ab⟩
      have n5_:Aside0 (Below w.heap.size w (w44.setCell ⟨ai,0,none⟩ (.slice ap an.length aq))):=⟨zB_ HB⟩
      (try clear af);(try clear ah);(try clear av);(try clear aa);(try clear ab);(try clear HB)
      generalize (w44.setCell ⟨ai,0,none⟩ (.slice ap an.length aq))=w47 at n0_ n1_ n2_ n3_ n4_ n5_ ⊢
      have af:=n0_;have ah:=n1_;have av:=n2_;have aa:=n3_;have ab:=n4_;have HB:=n5_;clear n0_ n1_ n2_ n3_ n4_ n5_
      replace af:=A0_ (rD af.out)
      replace ah:=A0_ (rD ah.out)
      replace av:=A0_ (rD av.out)
      replace aa:=A0_ (kD aa.out)
      replace ab:=A0_ (kD ab.out)
      replace HB:=A0_ (bD HB.out)
      have bF:0≤(ac:Int):=zd
      have bG:ac<(l1.length:Int):=zd
      obtain⟨cv,cT,aD⟩:=tI dl.out ac bF bG;have ay:=aD
      cases cT
      try replace aD:=(HB.out.cell (wL w _ aD)).trans aD
      replace bF:=eq_true bF;replace bG:=eq_true bG
      have bH:0≤((rd l1 ac):Int):=zd
      have bI:(rd l1 ac)<(aj.length:Int):=zd
      obtain⟨cw,cU,bd⟩:=tI (rR af.out).2.2 (rd l1 ac) bH bI
      obtain rfl:aw=cw:=(by injection cU)
      replace bH:=eq_true bH;replace bI:=eq_true bI
      refine start_ (n:=13) (S:=fun w'=>w'.cell? ⟨ai,0,none⟩=some (.slice ap an.length aq)∧w'.cell? ⟨ai,1,none⟩=some (u568001)∧w'.cell? (cv.add (ac).toNat)=some (.int .i64 (rd l1 ac))∧w'.cell? (aw.add ((rd l1 ac)).toNat)=some (.int .i64 (rd aj (rd l1 ac)))) (ds := [10,12]) (bs 13 0) (by kernel_rfl) rfl rfl ⟨(kC ab.out 0).trans rfl,(kC ab.out 1).trans rfl,((HB.out.cell (wL w _ ay)).trans ay),bd⟩ (fun hHeld => ?_);refine with_tabW s19_.tab15 s19_.bits15 (fun HT_ HW_ => ?_)
      generalize w47.drew=w48 at af ah av aa ab HB aD bd hHeld ⊢
      refine zP 0 (some 66) (bs 13 1) ?_
      refine zP 2 (some 68) (bs 13 5) ?_
      refine zP 3 (some 69) (bs 13 13) ?_
      refine zP 4 (some 70) (bs 13 29) ?_
      refine zP 5 (some 71) (bs 13 61) ?_
      refine zT 1 (some 67) (bs 13 63) hHeld ?_
      refine zT 6 (some 72) (bs 13 127) hHeld ?_
      refine zP 7 (some 73) (bs 13 255) ?_
      refine zT 8 (some 74) (bs 13 511) hHeld ?_
      refine one_ (i:=9) (N:=some 75) (bs 13 1023) rfl rfl (one_of HT_.out (by kernel_rfl)) (by decide) (fun K hK => ?_)
      refine value_ (w1 := ?_) (v := ?_) (by rfl) rfl ?_ ?_
      rotate_left 2
      ·go_simp
       constructor
       ·rfl
       rfl
      refine hK.out _ _ ⟨(kC (kA ab.out _) 0).trans rfl,(kC (kA ab.out _) 1).trans rfl,(World.cell?_alloc_lt _ _ _ (wL _ _ (((HB.out.cell (wL w _ ay)).trans ay)))).trans (((HB.out.cell (wL w _ ay)).trans ay)),(World.cell?_alloc_lt _ _ _ (wL _ _ (hHeld.2.2.2))).trans (hHeld.2.2.2)⟩ (fun hHeld => ?_)
      clear hK K
      refine zN (some 75) ?_
      refine last_ (i:=10) (N:=some 76) (bs 13 2047) rfl rfl (one_of HT_.out (by kernel_rfl)) (by decide) (fun K hK => ?_)
      refine Kd.R_append_step (Kd.int .i64) (w0:=w) w.heap.size (by rfl) (.tmp 67) (.tmp 75) 23 3 (.int .i64 0) 8 rfl Tryz.underlying23 info3 rfl (by decide) (by omega) u568001 ak (rd aj (rd l1 ac)) [.int .i64 (rd aj (rd l1 ac))] (fun k_=>nL k_ (some aw) aj aT∧nL k_ ap an aq) (fun _=>False) rfl rfl ?aP (fun _ hk=>hk.elim) ?aF ?aO ?aB ?aS ?aL ?_
      (case aP=>exact rfl)
      (case aB=>exact(zB_ HB))
      (case aF=>exact(fun k_ hk=>⟨Kd.fresh' (rX (zR_ af)) k_ hk,Kd.fresh' (rX (zR_ av)) k_ hk⟩))
      (case aO=>exact(zR_ ah))
      (case aS=>exact(bZ (zB_ HB)))
      (case aL=>have:=cr.out;omega)
      intro dO w49 ho hb hg hat
      rw [← ct.out] at ho
      replace af:=A0_ (Kd.R_after (ok:=(fun k_=>nL k_ ap an aq)) (zmR af (fun _ hk=>⟨hk.2,hk.1⟩)) hg hat)
      replace aa:=A0_ (blk_grown (g:=au) (o := .cells #[.slice none 0 0,.slice none 0 0] 25 (0,0)) (zK_ aa) hg (Kd.R_ne ah.out aa.out (by decide)))
      replace ab:=A0_ (blk_grown (g:=ai) (o := .cells #[.slice ap an.length aq,u568001] 25 (0,0)) (zK_ ab) hg (Kd.R_ne ah.out ab.out (by decide)))
      replace av:=A0_ (Kd.R_after (ok:=(fun k_=>nL k_ (some aw) aj aT)) (zR_ av) hg hat)
      replace HB:=A0_ (hb)
      have bQ:=A0_ (ho)
      clear ah ho hb hg hat;obtain⟨bo,bp,cd⟩:=rS bQ.out
      (first|subst cd|(injection cd with f1_ f2_ f3_;have f4_:=f1_.symm;have f5_:=f3_.symm;clear f1_ f2_ f3_;subst f4_;subst f5_))
      refine hK.out _ _ ?_
      clear hK K
      refine zN (some 76) ?_
      refine zP 11 (some 77) (bs 13 4095) ?_
      refine last_ (i:=12) (N:=none) (bs 13 8191) rfl rfl (one_of HT_.out (by kernel_rfl)) (by decide) (fun K hK => ?_)
      have dP:w49.cell? ⟨ai,1,none⟩=some (u568001):=(kC ab.out 1).trans rfl
      have dE:=kF ab.out 1;have cZ:=ar.out;have da:=aA.out
      refine skip_ (w1 := ?_) (by rfl) rfl ?_ ?_
      rotate_left
      ·go_simp
       rfl
      refine hK.out _ _ ?_
      clear hK K
      refine done_ (done_of HT_.out (by kernel_rfl)) ?_
      try go_wp2
      go_roundg k2
      case measure=>have:=aH.out;have:=ba.out;omega
      case rel=>exact⟨(wrap64 (ac+1)),(an),(aW),(.slice ap an.length aq),(.slice bo aW.length bp),zt,H',⟨by have:=aH.out;have:=ba.out;omega⟩,⟨by(with_reducible repeat(first|apply rA|apply rN|apply rD));exact rM (rF (p:=⟨ai,1,none⟩) (rY af.out ab.out (by decide)) (fun _ hk=>hk.2) (.slice bo aW.length bp)) (fun _ hk=>⟨hk.1.1,hk.1.2⟩)⟩,⟨by(with_reducible repeat(first|apply rA|apply rN|apply rD));exact rM (rF (p:=⟨ai,1,none⟩) (rY av.out ab.out (by decide)) (fun _ hk=>hk.2) (.slice bo aW.length bp)) (fun _ hk=>⟨hk.1.1,hk.1.2⟩)⟩,⟨by(with_reducible repeat(first|apply rA|apply rN|apply rD));exact rM (rF (p:=⟨ai,1,none⟩) (rY bQ.out ab.out (by decide)) (fun _ hk=>hk.2) (.slice bo aW.length bp)) (fun _ hk=>⟨hk.1.1,hk.1.2⟩)⟩,⟨by refine zbf ?_ _ (hp:=by exact ar.out);exact zK_ aa⟩,⟨by refine zbp (cs := #[.slice ap an.length aq,u568001]) ?_ 1 _ rfl;exact zK_ ab⟩,⟨zB_ HB⟩⟩
     rw [if_neg bb] at H;have cj:=dF bb;clear bb;simp only [Option.some.injEq,Prod.mk.injEq] at H;obtain⟨rfl,rfl⟩:=H;have dG:=aA.out;have dH:=ar.out;have db:=zc0 ab;have dc:=zc1 ab;have dd:=kF ab.out 0;have de:=kF ab.out 1;obtain⟨bq,br,cV⟩:=rS am.out;subst cV;have df:=zc0 aa;have dh:=zc1 aa;have di:=kF aa.out 0;have dj:=kF aa.out 1;obtain⟨bJ,bK,cW⟩:=rS ah.out;subst cW
     go_wp2
     refine bodyPost_ret (results_cell_row rfl _ _ au 25 #[.slice bq al.length br,.slice bJ ak.length bK] (0,0) _ rfl (by refine zbp (cs := #[.slice bq al.length br,.slice none 0 0]) ?_ 1 _ rfl;refine zbp (cs := #[.slice none 0 0,.slice none 0 0]) ?_ 0 _ rfl;exact zK_ aa) Tryz.underlying25 rfl (by kernel_rfl)) rfl ?_
     exact⟨_,_,by first|rfl|(simp [*] <;> rfl),by(with_reducible repeat(first|apply rA|apply rN|apply rD));exact rM (rF (p:=⟨au,1,none⟩) (rF (p:=⟨au,0,none⟩) (rY am.out aa.out (by decide)) (fun _ hk=>hk.2) (.slice bq al.length br)) (fun _ hk=>hk.2) (.slice bJ ak.length bK)) (fun _ hk=>hk.1.2),by(with_reducible repeat(first|apply rA|apply rN|apply rD));exact rM (rF (p:=⟨au,1,none⟩) (rF (p:=⟨au,0,none⟩) (rY ah.out aa.out (by decide)) (fun _ hk=>hk.2) (.slice bq al.length br)) (fun _ hk=>hk.2) (.slice bJ ak.length bK)) (fun _ hk=>hk.1.2),zB_ HB⟩
end Go.Proofs.YtjebcgbmlbemcaaGreatDoor.PFnExecuteContract
