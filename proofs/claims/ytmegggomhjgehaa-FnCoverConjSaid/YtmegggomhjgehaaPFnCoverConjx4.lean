import Derived.Test.YtmegggomhjgehaaPFnCoverConjx3
namespace Go.Proofs.Ytmegggomhjgehaa.PFnCoverConj
open Go.RowKit Go.Proofs.YtmegggomhjgehaaW.PrintWords Go.Proofs.YtmegggomhjgehaaW.PrintLast Go.Proofs.YtmegggomhjgehaaW.PrintMore
set_option maxHeartbeats 8000000
set_option maxRecDepth 100000
attribute [local go_sem] max2_int min2_int max_two min_two max_three min_three max_four min_four
mutual
def ie_.l0:Nat→Int→List (List Int)→List Int→Int→Int→List Int→List Int→List Int→List Int→Option (List Int×List Int)
  | 0,_,_,_,_,_,_,_,_,_=>none
  | k+1,x1,x2,ag,ah,aa,ab,ac,ae,af=>if aa<ah then (if 0≤aa then (if aa<(ag.length:Int) then ((ia_.f k ab ac x2 aa).bind fun ai=>(ie_.l1 k x1 x2 aa (rd ag aa) ai ag ah aa x1 0 ab ac ae af)) else (none)) else (none)) else (some (ae,af))
def ie_.l1:Nat→Int→List (List Int)→Int→Int→List Int→List Int→Int→Int→Int→Int→List Int→List Int→List Int→List Int→Option (List Int×List Int)
  | 0,_,_,_,_,_,_,_,_,_,_,_,_,_,_=>none
  | k+1,x1,x2,x8,x9,ag,ah,ai,aj,ak,aa,ab,af,ac,ae=>if aa<ak then (if 0≤x8 then (if x8<(ab.length:Int) then (if 0≤(wrap64 ((wrap64 (x1*x8))+aa)) then (if (wrap64 ((wrap64 (x1*x8))+aa))<(ac.length:Int) then (if 0≤aa then (if aa<(ag.length:Int) then (if (wrap64 ((wrap64 (x1*x8))+aa))<(ae.length:Int) then (ie_.l1 k x1 x2 x8 x9 ag ah ai aj ak (wrap64 (aa+1)) ab af (ac.set ((wrap64 ((wrap64 (x1*x8))+aa)):Int).toNat (wrap64 ((wrap64 (x1*(rd ab x8)))+aa))) (ae.set ((wrap64 ((wrap64 (x1*x8))+aa)):Int).toNat (wrap64 ((wrap64 (x1*x9))+(rd ag aa))))) else (none)) else (none)) else (none)) else (none)) else (none)) else (none)) else (none)) else (ie_.l0 k x1 x2 ah ai (wrap64 (aj+1)) ab af ac ae)
end
def ie_.f (k:Nat) (aa:List Int) (ab:List Int) (a1:Int) (l2:List (List Int)):Option (List Int×List Int):=if 0≤(wrap64 (a1*(aa.length:Int))) then (if (wrap64 (a1*(aa.length:Int)):Int).toNat≤35184372088832 then (ie_.l0 k a1 l2 ab (ab.length:Int) 0 aa ab (List.replicate (wrap64 (a1*(aa.length:Int)):Int).toNat 0) (List.replicate (wrap64 (a1*(aa.length:Int)):Int).toNat 0)) else (none)) else (none)
def ie_.T1:Bool×List (List Nat×List Nat):=(true,[([],[]),([],[]),([1],[1]),([2],[2]),([0,3],[0,3]),([4,4],[4]),([],[]),([],[]),([7],[7]),([8],[8]),([6,9],[6,9]),([10,10],[10]),([5,11],[5,11]),([],[]),([13,12,0,1,2,3,4,5,6,7,8,9,10,11,12,13],[12,13])])
def ie_.B1:List Nat := [0,0,2,6,15,31,0,0,128,384,960,1984,4095,0,16383]
theorem ie_.tab1:rtab .any (opsOf Try.f55 1)=ie_.T1:=by kernel_rfl
theorem ie_.bits1:waitsOk ie_.T1.2 ie_.B1=true:=by kernel_rfl
def ie_.T9:Bool×List (List Nat×List Nat):=(true,[([],[]),([0],[0]),([],[]),([],[]),([2,3],[2,3]),([],[]),([4,5],[4,5]),([],[]),([],[]),([8],[8]),([],[]),([9,10],[9,10]),([11],[11]),([7,12],[7,12]),([],[]),([13,14],[13,14]),([1,6,0,1,2,3,4,5,6,7,8,9,10,11,12,13,14,15],[1,6]),([16,15,0,1,2,3,4,5,6,7,8,9,10,11,12,13,14,15],[15,16])])
def ie_.B9:List Nat := [0,1,0,0,12,0,60,0,0,256,0,1792,3840,8064,0,32640,65535,131071]
theorem ie_.tab9:rtab .any (opsOf Try.f55 9)=ie_.T9:=by kernel_rfl
theorem ie_.bits9:waitsOk ie_.T9.2 ie_.B9=true:=by kernel_rfl
def ie_.T10:Bool×List (List Nat×List Nat):=(true,[([],[]),([0],[0]),([],[]),([],[]),([2,3],[2,3]),([],[]),([4,5],[4,5]),([],[]),([],[]),([7,8],[7,8]),([],[]),([],[]),([10,11],[10,11]),([12],[12]),([9,13],[9,13]),([1,6,0,1,2,3,4,5,6,7,8,9,10,11,12,13,14],[1,6]),([15,14,0,1,2,3,4,5,6,7,8,9,10,11,12,13,14],[14,15])])
def ie_.B10:List Nat := [0,1,0,0,12,0,60,0,0,384,0,0,3072,7168,16256,32767,65535]
theorem ie_.tab10:rtab .any (opsOf Try.f55 10)=ie_.T10:=by kernel_rfl
theorem ie_.bits10:waitsOk ie_.T10.2 ie_.B10=true:=by kernel_rfl
theorem ie_.calls (k:Nat) (ax:Option Addr) (av:Nat) (ag:List Int) (az:Option Addr) (aw:Nat) (ae:List Int) (a1:Int) (A2:Option Addr) (c2:Nat) (l2:List (List Int)) (r1:List Int) (r2:List Int) (w:World) (b5:Kd.C (Kd.int .i64) w ax ag.length ag) (b6:ag.length≤av) (b7:Kd.C (Kd.int .i64) w az ae.length ae) (b8:ae.length≤aw) (cZ:Kd.C (Kd.slice 3 (Kd.int .i64)) w A2 l2.length l2) (da:l2.length≤c2) (h:ie_.f k ag ae a1 l2=some (r1,r2)) :
    Calls Try.prog 55 #[.agg #[.slice ax ag.length av,.slice az ae.length aw],.int .i64 a1,.slice A2 l2.length c2] w fun e w' => ∃ v0_ v1_:Value,e = .returned (.agg #[v0_,v1_])∧Kd.R (Kd.int .i64) 3 w' w.heap.size (fun k_=>nO k_ v1_) v0_ r1∧Kd.R (Kd.int .i64) 3 w' w.heap.size (fun k_=>nO k_ v0_) v1_ r2∧Below w.heap.size w w':=by
 have ed:=Try.underlying25;have b9:=A0_ b5;have cI:=A0_ b6;clear b5 b6;have ca:=A0_ b7;have cJ:=A0_ b8;clear b7 b8;have dJ:=A0_ cZ;have dK:=A0_ da;clear cZ da
 have HB:=A0_ (Below.refl w.heap.size w)
 have H:(if 0≤(wrap64 (a1*(ag.length:Int))) then (if (wrap64 (a1*(ag.length:Int)):Int).toNat≤35184372088832 then (ie_.l0 k a1 l2 ae (ae.length:Int) 0 ag ae (List.replicate (wrap64 (a1*(ag.length:Int)):Int).toNat 0) (List.replicate (wrap64 (a1*(ag.length:Int)):Int).toNat 0)) else (none)) else (none))=some (r1,r2):=h
 clear h
 obtain⟨aM,bz⟩ : ∃ j_:Int,(wrap64 (a1*(ag.length:Int)))=j_:=⟨_,rfl⟩
 replace H:(if 0≤(aM) then (if (aM:Int).toNat≤35184372088832 then (ie_.l0 k a1 l2 ae (ae.length:Int) 0 ag ae (List.replicate (aM:Int).toNat 0) (List.replicate (aM:Int).toNat 0)) else (none)) else (none))=some (r1,r2):=by first|(rw [bz] at H;exact H)|(simp only [bz] at H ⊢;exact H)
 have hji4w:(IntKind.i64.wrap (a1*(ag.length:Int)))=aM:=(i64_w _).trans bz
 have c5:=zpc H;replace H:=zph H
 have ee:=eq_true c5;have ef:=dT c5;clear c5
 have c6:=zpc H;replace H:=zph H
 have eg:=eq_true c6;have eh:=dT c6;clear c6
 obtain⟨aH,bB⟩ : ∃ y_:List Int,y_=(List.replicate (aM:Int).toNat 0):=⟨_,rfl⟩
 replace H:(ie_.l0 k a1 l2 ae (ae.length:Int) 0 ag ae aH (List.replicate (aM:Int).toNat 0))=some (r1,r2):=zH bB H
 have a4:=A0_ bB;clear bB
 obtain⟨aK,bC⟩ : ∃ y_:List Int,y_=(List.replicate (aM:Int).toNat 0):=⟨_,rfl⟩
 replace H:(ie_.l0 k a1 l2 ae (ae.length:Int) 0 ag ae aH aK)=some (r1,r2):=zH bC H
 have a5:=A0_ bC;clear bC;have H':=A0_ H;clear H
 go_enter Try.func55,Try.ntmps55
 try go_wp2_with (first|((with_reducible refine gD (N:=3) rfl ?_);refine zX (N:=3) (cs := #[.slice ax ag.length av,.slice az ae.length aw]) (t:=25) ?_;intro ac hg w7 hbox hb;have aa:=A0_ (hbox);have cK:=zG hg HB;have cb:=zG hg HB;replace HB:=zB HB hb;clear hb hbox hg)|((with_reducible refine gD (N:=6) rfl ?_);refine zX (N:=6) (cs := #[.slice none 0 0,.slice none 0 0]) (t:=25) ?_;intro am hg w8 hbox hb;have ab:=A0_ (hbox);have cL:=zG hg HB;have cc:=zG hg HB;replace HB:=zB HB hb;have a7:=zL hg aa;have a8:=zM hg aa;replace aa:=zK aa hb;clear hb hbox hg))
 replace aa:=A0_ (kD aa.out)
 replace ab:=A0_ (kD ab.out)
 replace HB:=A0_ (bD HB.out)
 refine start_ (n:=15) (S:=fun w'=>w'.cell? ⟨ac,0,none⟩=some (.slice ax ag.length av)∧w'.cell? ⟨ac,1,none⟩=some (.slice az ae.length aw)) (ds := []) (bs 15 0) (by kernel_rfl) rfl rfl ⟨(kC aa.out 0).trans rfl,(kC aa.out 1).trans rfl⟩ (fun hHeld => ?_);refine with_tabW ie_.tab1 ie_.bits1 (fun HT_ HW_ => ?_)
 generalize w8.drew=w9 at aa ab HB hHeld ⊢
 refine zP 0 (some 12) (bs 15 1) ?_
 refine zP 1 (some 13) (bs 15 3) ?_
 refine zP 6 (some 18) (bs 15 67) ?_
 refine zP 7 (some 19) (bs 15 195) ?_
 refine zT 2 (some 14) (bs 15 199) hHeld ?_
 refine zP 3 (some 15) (bs 15 207) ?_
 refine zP 4 (some 16) (bs 15 223) ?_
 refine zT 8 (some 20) (bs 15 479) hHeld ?_
 refine zP 9 (some 21) (bs 15 991) ?_
 refine zP 10 (some 22) (bs 15 2015) ?_
 refine join_ (σ:=Value×Value×Nat) 1 (bs 15 16383) (fun s_ => [(17,s_.1),(23,s_.2.1),(7,.pointer (some ⟨s_.2.2,0,none⟩)),(24,.agg #[s_.1,s_.2.1])]) (fun s_ w'=>(w'.cell? ⟨ac,0,none⟩=some (.slice ax ag.length av)∧w'.cell? ⟨ac,1,none⟩=some (.slice az ae.length aw))∧(Kd.R (Kd.int .i64) 3 w' w.heap.size (fun k_=>some k_≠(s_.2.1:Value).ownBlock) s_.1 aH)∧(Kd.R (Kd.int .i64) 3 w' w.heap.size (fun k_=>some k_≠(s_.1:Value).ownBlock) s_.2.1 aK)∧(w'.heap[ac]? = some (.cells #[.slice ax ag.length av,.slice az ae.length aw] 25 (0,0)))∧(w'.heap[am]? = some (.cells #[.slice none 0 0,.slice none 0 0] 25 (0,0)))∧(w'.heap[s_.2.2]? = some (.cells #[.slice none 0 0,.slice none 0 0] 25 (0,0)))∧(w.heap.size≤s_.2.2)∧(w.heap.size≤s_.2.2)∧(ac≠s_.2.2)∧(s_.2.2≠ac)∧(am≠s_.2.2)∧(s_.2.2≠am)∧(Below w.heap.size w w')) ?_ ?_
 rotate_left
 ·intro a9
  refine join_ (σ:=Value×Value) 2 (bs 15 8191) (fun s_ => [(17,s_.1),(23,s_.2),(24,.agg #[s_.1,s_.2])]) (fun s_ w'=>(w'.cell? ⟨ac,0,none⟩=some (.slice ax ag.length av)∧w'.cell? ⟨ac,1,none⟩=some (.slice az ae.length aw))∧(Kd.R (Kd.int .i64) 3 w' w.heap.size (fun k_=>some k_≠(s_.2:Value).ownBlock) s_.1 aH)∧(Kd.R (Kd.int .i64) 3 w' w.heap.size (fun k_=>some k_≠(s_.1:Value).ownBlock) s_.2 aK)∧(w'.heap[ac]? = some (.cells #[.slice ax ag.length av,.slice az ae.length aw] 25 (0,0)))∧(w'.heap[am]? = some (.cells #[.slice none 0 0,.slice none 0 0] 25 (0,0)))∧(Below w.heap.size w w')) ?_ ?_
  rotate_left
  ·intro bQ
   refine join_ (σ:=Value×Nat) 3 (bs 15 10239) (fun s_ => [(17,s_.1),(7,.pointer (some ⟨s_.2,0,none⟩))]) (fun s_ w'=>(w'.cell? ⟨ac,0,none⟩=some (.slice ax ag.length av)∧w'.cell? ⟨ac,1,none⟩=some (.slice az ae.length aw))∧(Kd.R (Kd.int .i64) 3 w' w.heap.size (fun _=>True) s_.1 aH)∧(w'.heap[ac]? = some (.cells #[.slice ax ag.length av,.slice az ae.length aw] 25 (0,0)))∧(w'.heap[am]? = some (.cells #[.slice none 0 0,.slice none 0 0] 25 (0,0)))∧(w'.heap[s_.2]? = some (.cells #[.slice none 0 0,.slice none 0 0] 25 (0,0)))∧(w.heap.size≤s_.2)∧(w.heap.size≤s_.2)∧(ac≠s_.2)∧(s_.2≠ac)∧(am≠s_.2)∧(s_.2≠am)∧(Below w.heap.size w w')) ?_ ?_
   rotate_left
   ·intro bR
    refine join_ (σ:=Value×Nat) 3 (bs 15 12255) (fun s_ => [(23,s_.1),(7,.pointer (some ⟨s_.2,0,none⟩))]) (fun s_ w'=>(w'.cell? ⟨ac,0,none⟩=some (.slice ax ag.length av)∧w'.cell? ⟨ac,1,none⟩=some (.slice az ae.length aw))∧(Kd.R (Kd.int .i64) 3 w' w.heap.size (fun _=>True) s_.1 aK)∧(w'.heap[ac]? = some (.cells #[.slice ax ag.length av,.slice az ae.length aw] 25 (0,0)))∧(w'.heap[am]? = some (.cells #[.slice none 0 0,.slice none 0 0] 25 (0,0)))∧(w'.heap[s_.2]? = some (.cells #[.slice none 0 0,.slice none 0 0] 25 (0,0)))∧(w.heap.size≤s_.2)∧(w.heap.size≤s_.2)∧(ac≠s_.2)∧(s_.2≠ac)∧(am≠s_.2)∧(s_.2≠am)∧(Below w.heap.size w w')) ?_ ?_
    rotate_left
    ·intro bo
     refine join_ (σ:=Value) 4 (bs 15 2047) (fun s_ => [(17,s_)]) (fun s_ w'=>(w'.cell? ⟨ac,0,none⟩=some (.slice ax ag.length av)∧w'.cell? ⟨ac,1,none⟩=some (.slice az ae.length aw))∧(Kd.R (Kd.int .i64) 3 w' w.heap.size (fun _=>True) s_ aH)∧(w'.heap[ac]? = some (.cells #[.slice ax ag.length av,.slice az ae.length aw] 25 (0,0)))∧(w'.heap[am]? = some (.cells #[.slice none 0 0,.slice none 0 0] 25 (0,0)))∧(Below w.heap.size w w')) ?_ ?_
     rotate_left
     ·intro dL
      refine join_ (σ:=Value) 4 (bs 15 4063) (fun s_ => [(23,s_)]) (fun s_ w'=>(w'.cell? ⟨ac,0,none⟩=some (.slice ax ag.length av)∧w'.cell? ⟨ac,1,none⟩=some (.slice az ae.length aw))∧(Kd.R (Kd.int .i64) 3 w' w.heap.size (fun _=>True) s_ aK)∧(w'.heap[ac]? = some (.cells #[.slice ax ag.length av,.slice az ae.length aw] 25 (0,0)))∧(w'.heap[am]? = some (.cells #[.slice none 0 0,.slice none 0 0] 25 (0,0)))∧(Below w.heap.size w w')) ?_ ?_
      rotate_left
      ·intro dj
       refine join_ (σ:=Nat) 4 (bs 15 10207) (fun s_ => [(7,.pointer (some ⟨s_,0,none⟩))]) (fun s_ w'=>(w'.cell? ⟨ac,0,none⟩=some (.slice ax ag.length av)∧w'.cell? ⟨ac,1,none⟩=some (.slice az ae.length aw))∧(w'.heap[ac]? = some (.cells #[.slice ax ag.length av,.slice az ae.length aw] 25 (0,0)))∧(w'.heap[am]? = some (.cells #[.slice none 0 0,.slice none 0 0] 25 (0,0)))∧(w'.heap[s_]? = some (.cells #[.slice none 0 0,.slice none 0 0] 25 (0,0)))∧(w.heap.size≤s_)∧(w.heap.size≤s_)∧(ac≠s_)∧(s_≠ac)∧(am≠s_)∧(s_≠am)∧(Below w.heap.size w w')) ?_ ?_
       rotate_left
       ·intro dk
        refine three_ (i:=5) (j:=11) (k:=13) (Ni:=some 17) (Nj:=some 23) (Nk:=some 7) (bs 15 2047) (bs 15 4063) (bs 15 10207) rfl rfl rfl rfl rfl rfl (three_of HT_.out (by kernel_rfl)) (by decide) (by decide) (by decide) (fun K hK => ?_) (fun K hK => ?_) (fun K hK => ?_)
        ·skip
         refine Kd.R_make_step (Kd.int .i64) _ 3 (by rfl) (N:=17) rfl 23 _ _ rfl aM rfl rfl Try.underlying23 (.int .i64 0) 8 info3 rfl (by decide) (by omega) 0 (ok:=fun _=>True) (okp:=fun _=>True) rfl (fun _ hk=>hk) trivial (zd) (Nat.le_trans (Nat.mul_le_mul_right _ (zd:aM.toNat≤35184372088832)) (by omega)) (Below.refl _ _) (Nat.le_refl _) ?_
         intro aQ w10 aX hb hg_ hnew_
         clear hg_ hnew_
         (first|rw [← a4.out] at aX|(simp only [Int.reduceToNat] at aX;rw [← a4.out] at aX))
         have ar:=A0_ (rL aX (bZ (zB_ HB)))
         replace aa:=zK aa hb;replace ab:=zK ab hb;replace HB:=zB HB hb;clear hb aX
         refine hK.out _ _ ⟨(kC aa.out 0).trans rfl,(kC aa.out 1).trans rfl⟩ (fun hHeld => ?_)
         clear hK K
         refine zN (some 17) ?_
         exact norm_ zA (dL (aQ) _ ⟨hHeld,(zR_ ar),(zK_ aa),(zK_ ab),(zB_ HB)⟩)
        ·skip
         refine Kd.R_make_step (Kd.int .i64) _ 3 (by rfl) (N:=23) rfl 23 _ _ rfl aM rfl rfl Try.underlying23 (.int .i64 0) 8 info3 rfl (by decide) (by omega) 0 (ok:=fun _=>True) (okp:=fun _=>True) rfl (fun _ hk=>hk) trivial (zd) (Nat.le_trans (Nat.mul_le_mul_right _ (zd:aM.toNat≤35184372088832)) (by omega)) (Below.refl _ _) (Nat.le_refl _) ?_
         intro aT w10 aX hb hg_ hnew_
         clear hg_ hnew_
         (first|rw [← a5.out] at aX|(simp only [Int.reduceToNat] at aX;rw [← a5.out] at aX))
         have au:=A0_ (rL aX (bZ (zB_ HB)))
         replace aa:=zK aa hb;replace ab:=zK ab hb;replace HB:=zB HB hb;clear hb aX
         refine hK.out _ _ ⟨(kC aa.out 0).trans rfl,(kC aa.out 1).trans rfl⟩ (fun hHeld => ?_)
         clear hK K
         refine zN (some 23) ?_
         exact norm_ zA (dj (aT) _ ⟨hHeld,(zR_ au),(zK_ aa),(zK_ ab),(zB_ HB)⟩)
        skip
        refine zbx (N:=7) (cs := #[.slice none 0 0,.slice none 0 0]) (t:=25) ?_
        intro af hg w10 hbox hb
        have ah:=A0_ (hbox)
        have aG:=zG hg HB;have aE:=zG hg HB;replace HB:=zB HB hb;have aj:=zL hg aa;have ao:=zM hg aa;replace aa:=zK aa hb;have ap:=zL hg ab;have aq:=zM hg ab;replace ab:=zK ab hb;clear hb hbox hg
        refine hK.out _ _ ⟨(kC aa.out 0).trans rfl,(kC aa.out 1).trans rfl⟩ (fun hHeld => ?_)
        clear hK K
        refine zN (some 7) ?_
        exact norm_ zA (dk (af) _ ⟨hHeld,(zK_ aa),(zK_ ab),(zK_ ah),aG.out,aE.out,aj.out,ao.out,ap.out,aq.out,(zB_ HB)⟩)
       skip
       rintro af w11 ⟨hS_,h0_,h1_,h2_,h3_,h4_,h5_,h6_,h7_,h8_,h9_⟩
       replace aa:Aside0 (w11.heap[ac]? = some (.cells #[.slice ax ag.length av,.slice az ae.length aw] 25 (0,0))):=⟨h0_⟩
       replace ab:Aside0 (w11.heap[am]? = some (.cells #[.slice none 0 0,.slice none 0 0] 25 (0,0))):=⟨h1_⟩
       have ah:Aside0 (w11.heap[af]? = some (.cells #[.slice none 0 0,.slice none 0 0] 25 (0,0))):=⟨h2_⟩
       have aG:Aside0 (w.heap.size≤af):=⟨h3_⟩
       have aE:Aside0 (w.heap.size≤af):=⟨h4_⟩
       have aj:Aside0 (ac≠af):=⟨h5_⟩
       have ao:Aside0 (af≠ac):=⟨h6_⟩
       have ap:Aside0 (am≠af):=⟨h7_⟩
       have aq:Aside0 (af≠am):=⟨h8_⟩
       replace HB:Aside0 (Below w.heap.size w w11):=⟨h9_⟩
       clear h0_ h1_ h2_ h3_ h4_ h5_ h6_ h7_ h8_ h9_
       have hHeld:w11.cell? ⟨ac,0,none⟩=some (.slice ax ag.length av)∧w11.cell? ⟨ac,1,none⟩=some (.slice az ae.length aw):=hS_
       refine norm_ (a' := ?_) ?_ ?_
       rotate_left
       ·simp only [putAll,Act.put,List.setIfInBounds_toArray,List.set_cons_zero,List.set_cons_succ]
        rfl
       refine two_ (i:=5) (j:=11) (Ni:=some 17) (Nj:=some 23) (bs 15 10239) (bs 15 12255) rfl rfl rfl rfl (two_of HT_.out (by kernel_rfl)) (by decide) (by decide) (fun K hK => ?_) (fun K hK => ?_)
       ·skip
        refine Kd.R_make_step (Kd.int .i64) _ 3 (by rfl) (N:=17) rfl 23 _ _ rfl aM rfl rfl Try.underlying23 (.int .i64 0) 8 info3 rfl (by decide) (by omega) 0 (ok:=fun _=>True) (okp:=fun _=>True) rfl (fun _ hk=>hk) trivial (zd) (Nat.le_trans (Nat.mul_le_mul_right _ (zd:aM.toNat≤35184372088832)) (by omega)) (Below.refl _ _) (Nat.le_refl _) ?_
        intro aQ w12 aY hb hg_ hnew_
        clear hg_ hnew_
        (first|rw [← a4.out] at aY|(simp only [Int.reduceToNat] at aY;rw [← a4.out] at aY))
        have ar:=A0_ (rL aY (bZ (zB_ HB)))
        replace aa:=zK aa hb;replace ab:=zK ab hb;replace ah:=zK ah hb;replace HB:=zB HB hb;clear hb aY
        refine hK.out _ _ ⟨(kC aa.out 0).trans rfl,(kC aa.out 1).trans rfl⟩ (fun hHeld => ?_)
        clear hK K
        refine zN (some 17) ?_
        exact norm_ zA (bR (aQ,af) _ ⟨hHeld,(zR_ ar),(zK_ aa),(zK_ ab),(zK_ ah),aG.out,aE.out,aj.out,ao.out,ap.out,aq.out,(zB_ HB)⟩)
       skip
       refine Kd.R_make_step (Kd.int .i64) _ 3 (by rfl) (N:=23) rfl 23 _ _ rfl aM rfl rfl Try.underlying23 (.int .i64 0) 8 info3 rfl (by decide) (by omega) 0 (ok:=fun _=>True) (okp:=fun _=>True) rfl (fun _ hk=>hk) trivial (zd) (Nat.le_trans (Nat.mul_le_mul_right _ (zd:aM.toNat≤35184372088832)) (by omega)) (Below.refl _ _) (Nat.le_refl _) ?_
       intro aT w12 aY hb hg_ hnew_
       clear hg_ hnew_
       (first|rw [← a5.out] at aY|(simp only [Int.reduceToNat] at aY;rw [← a5.out] at aY))
       have au:=A0_ (rL aY (bZ (zB_ HB)))
       replace aa:=zK aa hb;replace ab:=zK ab hb;replace ah:=zK ah hb;replace HB:=zB HB hb;clear hb aY
       refine hK.out _ _ ⟨(kC aa.out 0).trans rfl,(kC aa.out 1).trans rfl⟩ (fun hHeld => ?_)
       clear hK K
       refine zN (some 23) ?_
       exact norm_ zA (bo (aT,af) _ ⟨hHeld,(zR_ au),(zK_ aa),(zK_ ab),(zK_ ah),aG.out,aE.out,aj.out,ao.out,ap.out,aq.out,(zB_ HB)⟩)
      skip
      rintro aT w12 ⟨hS_,h0_,h1_,h2_,h3_⟩
      have au:Aside0 (Kd.R (Kd.int .i64) 3 w12 w.heap.size (fun _=>True) aT aK):=⟨h0_⟩
      replace aa:Aside0 (w12.heap[ac]? = some (.cells #[.slice ax ag.length av,.slice az ae.length aw] 25 (0,0))):=⟨h1_⟩
      replace ab:Aside0 (w12.heap[am]? = some (.cells #[.slice none 0 0,.slice none 0 0] 25 (0,0))):=⟨h2_⟩
      replace HB:Aside0 (Below w.heap.size w w12):=⟨h3_⟩
      clear h0_ h1_ h2_ h3_
      have hHeld:w12.cell? ⟨ac,0,none⟩=some (.slice ax ag.length av)∧w12.cell? ⟨ac,1,none⟩=some (.slice az ae.length aw):=hS_
      refine norm_ (a' := ?_) ?_ ?_
      rotate_left
      ·simp only [putAll,Act.put,List.setIfInBounds_toArray,List.set_cons_zero,List.set_cons_succ]
       rfl
      refine two_ (i:=5) (j:=13) (Ni:=some 17) (Nj:=some 7) (bs 15 4095) (bs 15 12255) rfl rfl rfl rfl (two_of HT_.out (by kernel_rfl)) (by decide) (by decide) (fun K hK => ?_) (fun K hK => ?_)
      ·skip
       refine Kd.R_make_step (Kd.int .i64) _ 3 (by rfl) (N:=17) rfl 23 _ _ rfl aM rfl rfl Try.underlying23 (.int .i64 0) 8 info3 rfl (by decide) (by omega) 0 (ok:=fun _=>True) (okp:=fun _=>True) rfl (fun _ hk=>hk) trivial (zd) (Nat.le_trans (Nat.mul_le_mul_right _ (zd:aM.toNat≤35184372088832)) (by omega)) (Below.refl _ _) (Nat.le_refl _) ?_
       intro aQ w13 aV hb hg_ hnew_
       clear hg_ hnew_
       (first|rw [← a4.out] at aV|(simp only [Int.reduceToNat] at aV;rw [← a4.out] at aV))
       have ar:=A0_ (rL (Kd.R_new' aV (rX (zR_ au))) (bZ (zB_ HB)))
       replace au:=A0_ (Kd.R_elder' (zR_ au) (Kd.R_base aV) hb)
       replace aa:=zK aa hb;replace ab:=zK ab hb;replace HB:=zB HB hb;clear hb aV;obtain⟨bU,bV,bh⟩:=rS au.out
       (first|subst bh|(injection bh with f1_ f2_ f3_;have f4_:=f1_.symm;have f5_:=f3_.symm;clear f1_ f2_ f3_;subst f4_;subst f5_))
       obtain⟨bd,be,aZ⟩:=rS ar.out
       (first|subst aZ|(injection aZ with f1_ f2_ f3_;have f4_:=f1_.symm;have f5_:=f3_.symm;clear f1_ f2_ f3_;subst f4_;subst f5_))
       refine hK.out _ _ ⟨(kC aa.out 0).trans rfl,(kC aa.out 1).trans rfl⟩ (fun hHeld => ?_)
       clear hK K
       refine zN (some 17) ?_
       refine zP 12 (some 24) (bs 15 8191) ?_
       exact norm_ zA (bQ (.slice bd aH.length be,.slice bU aK.length bV) _ ⟨hHeld,(zmR ar (fun _ hk=>hk.2)),(zmR au (fun _ hk=>hk.2)),(zK_ aa),(zK_ ab),(zB_ HB)⟩)
      skip
      refine zbx (N:=7) (cs := #[.slice none 0 0,.slice none 0 0]) (t:=25) ?_
      intro af hg w13 hbox hb
      replace au:=zR au hb
      have ah:=A0_ (hbox)
      have aG:=zG hg HB;have aE:=zG hg HB;replace HB:=zB HB hb;have aj:=zL hg aa;have ao:=zM hg aa;replace aa:=zK aa hb;have ap:=zL hg ab;have aq:=zM hg ab;replace ab:=zK ab hb;clear hb hbox hg
      refine hK.out _ _ ⟨(kC aa.out 0).trans rfl,(kC aa.out 1).trans rfl⟩ (fun hHeld => ?_)
      clear hK K
      refine zN (some 7) ?_
      exact norm_ zA (bo (aT,af) _ ⟨hHeld,(zR_ au),(zK_ aa),(zK_ ab),(zK_ ah),aG.out,aE.out,aj.out,ao.out,ap.out,aq.out,(zB_ HB)⟩)
     skip
     rintro aQ w12 ⟨hS_,h0_,h1_,h2_,h3_⟩
     have ar:Aside0 (Kd.R (Kd.int .i64) 3 w12 w.heap.size (fun _=>True) aQ aH):=⟨h0_⟩
     replace aa:Aside0 (w12.heap[ac]? = some (.cells #[.slice ax ag.length av,.slice az ae.length aw] 25 (0,0))):=⟨h1_⟩
     replace ab:Aside0 (w12.heap[am]? = some (.cells #[.slice none 0 0,.slice none 0 0] 25 (0,0))):=⟨h2_⟩
     replace HB:Aside0 (Below w.heap.size w w12):=⟨h3_⟩
     clear h0_ h1_ h2_ h3_
     have hHeld:w12.cell? ⟨ac,0,none⟩=some (.slice ax ag.length av)∧w12.cell? ⟨ac,1,none⟩=some (.slice az ae.length aw):=hS_
     refine norm_ (a' := ?_) ?_ ?_
     rotate_left
     ·simp only [putAll,Act.put,List.setIfInBounds_toArray,List.set_cons_zero,List.set_cons_succ]
      rfl
     refine two_ (i:=11) (j:=13) (Ni:=some 23) (Nj:=some 7) (bs 15 4095) (bs 15 10239) rfl rfl rfl rfl (two_of HT_.out (by kernel_rfl)) (by decide) (by decide) (fun K hK => ?_) (fun K hK => ?_)
     ·skip
      refine Kd.R_make_step (Kd.int .i64) _ 3 (by rfl) (N:=23) rfl 23 _ _ rfl aM rfl rfl Try.underlying23 (.int .i64 0) 8 info3 rfl (by decide) (by omega) 0 (ok:=fun _=>True) (okp:=fun _=>True) rfl (fun _ hk=>hk) trivial (zd) (Nat.le_trans (Nat.mul_le_mul_right _ (zd:aM.toNat≤35184372088832)) (by omega)) (Below.refl _ _) (Nat.le_refl _) ?_
      intro aT w13 aV hb hg_ hnew_
      clear hg_ hnew_
      (first|rw [← a5.out] at aV|(simp only [Int.reduceToNat] at aV;rw [← a5.out] at aV))
      have au:=A0_ (rL (Kd.R_new' aV (rX (zR_ ar))) (bZ (zB_ HB)))
      replace ar:=A0_ (Kd.R_elder' (zR_ ar) (Kd.R_base aV) hb)
      replace aa:=zK aa hb;replace ab:=zK ab hb;replace HB:=zB HB hb;clear hb aV;obtain⟨bU,bV,bh⟩:=rS au.out
      (first|subst bh|(injection bh with f1_ f2_ f3_;have f4_:=f1_.symm;have f5_:=f3_.symm;clear f1_ f2_ f3_;subst f4_;subst f5_))
      obtain⟨bd,be,aZ⟩:=rS ar.out
      (first|subst aZ|(injection aZ with f1_ f2_ f3_;have f4_:=f1_.symm;have f5_:=f3_.symm;clear f1_ f2_ f3_;subst f4_;subst f5_))
      refine hK.out _ _ ⟨(kC aa.out 0).trans rfl,(kC aa.out 1).trans rfl⟩ (fun hHeld => ?_)
      clear hK K
      refine zN (some 23) ?_
      refine zP 12 (some 24) (bs 15 8191) ?_
      exact norm_ zA (bQ (.slice bd aH.length be,.slice bU aK.length bV) _ ⟨hHeld,(zmR ar (fun _ hk=>hk.2)),(zmR au (fun _ hk=>hk.2)),(zK_ aa),(zK_ ab),(zB_ HB)⟩)
     skip
     refine zbx (N:=7) (cs := #[.slice none 0 0,.slice none 0 0]) (t:=25) ?_
     intro af hg w13 hbox hb
     replace ar:=zR ar hb
     have ah:=A0_ (hbox)
     have aG:=zG hg HB;have aE:=zG hg HB;replace HB:=zB HB hb;have aj:=zL hg aa;have ao:=zM hg aa;replace aa:=zK aa hb;have ap:=zL hg ab;have aq:=zM hg ab;replace ab:=zK ab hb;clear hb hbox hg
     refine hK.out _ _ ⟨(kC aa.out 0).trans rfl,(kC aa.out 1).trans rfl⟩ (fun hHeld => ?_)
     clear hK K
     refine zN (some 7) ?_
     exact norm_ zA (bR (aQ,af) _ ⟨hHeld,(zR_ ar),(zK_ aa),(zK_ ab),(zK_ ah),aG.out,aE.out,aj.out,ao.out,ap.out,aq.out,(zB_ HB)⟩)
    skip
    rintro⟨aT,af⟩ w13 ⟨hS_,h0_,h1_,h2_,h3_,h4_,h5_,h6_,h7_,h8_,h9_,h10_⟩
    have au:Aside0 (Kd.R (Kd.int .i64) 3 w13 w.heap.size (fun _=>True) aT aK):=⟨h0_⟩
    replace aa:Aside0 (w13.heap[ac]? = some (.cells #[.slice ax ag.length av,.slice az ae.length aw] 25 (0,0))):=⟨h1_⟩
    replace ab:Aside0 (w13.heap[am]? = some (.cells #[.slice none 0 0,.slice none 0 0] 25 (0,0))):=⟨h2_⟩
    have ah:Aside0 (w13.heap[af]? = some (.cells #[.slice none 0 0,.slice none 0 0] 25 (0,0))):=⟨h3_⟩
    have aG:Aside0 (w.heap.size≤af):=⟨h4_⟩
    have aE:Aside0 (w.heap.size≤af):=⟨h5_⟩
    have aj:Aside0 (ac≠af):=⟨h6_⟩
    have ao:Aside0 (af≠ac):=⟨h7_⟩
    have ap:Aside0 (am≠af):=⟨h8_⟩
    have aq:Aside0 (af≠am):=⟨h9_⟩
    replace HB:Aside0 (Below w.heap.size w w13):=⟨h10_⟩
    clear h0_ h1_ h2_ h3_ h4_ h5_ h6_ h7_ h8_ h9_ h10_
    have hHeld:w13.cell? ⟨ac,0,none⟩=some (.slice ax ag.length av)∧w13.cell? ⟨ac,1,none⟩=some (.slice az ae.length aw):=hS_
    refine norm_ (a' := ?_) ?_ ?_
    rotate_left
    ·simp only [putAll,Act.put,List.setIfInBounds_toArray,List.set_cons_zero,List.set_cons_succ]
     rfl
    refine one_ (i:=5) (N:=some 17) (bs 15 12287) rfl rfl (one_of HT_.out (by kernel_rfl)) (by decide) (fun K hK => ?_)
    refine Kd.R_make_step (Kd.int .i64) _ 3 (by rfl) (N:=17) rfl 23 _ _ rfl aM rfl rfl Try.underlying23 (.int .i64 0) 8 info3 rfl (by decide) (by omega) 0 (ok:=fun _=>True) (okp:=fun _=>True) rfl (fun _ hk=>hk) trivial (zd) (Nat.le_trans (Nat.mul_le_mul_right _ (zd:aM.toNat≤35184372088832)) (by omega)) (Below.refl _ _) (Nat.le_refl _) ?_
    intro aQ w14 aW hb hg_ hnew_
    clear hg_ hnew_
    (first|rw [← a4.out] at aW|(simp only [Int.reduceToNat] at aW;rw [← a4.out] at aW))
    have ar:=A0_ (rL (Kd.R_new' aW (rX (zR_ au))) (bZ (zB_ HB)))
    replace au:=A0_ (Kd.R_elder' (zR_ au) (Kd.R_base aW) hb)
    replace aa:=zK aa hb;replace ab:=zK ab hb;replace ah:=zK ah hb;replace HB:=zB HB hb;clear hb aW;obtain⟨bd,be,aZ⟩:=rS au.out
    (first|subst aZ|(injection aZ with f1_ f2_ f3_;have f4_:=f1_.symm;have f5_:=f3_.symm;clear f1_ f2_ f3_;subst f4_;subst f5_))
    obtain⟨bi,bj,ba⟩:=rS ar.out
    (first|subst ba|(injection ba with f1_ f2_ f3_;have f4_:=f1_.symm;have f5_:=f3_.symm;clear f1_ f2_ f3_;subst f4_;subst f5_))
    refine hK.out _ _ ⟨(kC aa.out 0).trans rfl,(kC aa.out 1).trans rfl⟩ (fun hHeld => ?_)
    clear hK K
    refine zN (some 17) ?_
    refine zP 12 (some 24) (bs 15 16383) ?_
    exact norm_ zA (a9 (.slice bi aH.length bj,.slice bd aK.length be,af) _ ⟨hHeld,(zmR ar (fun _ hk=>hk.2)),(zmR au (fun _ hk=>hk.2)),(zK_ aa),(zK_ ab),(zK_ ah),aG.out,aE.out,aj.out,ao.out,ap.out,aq.out,(zB_ HB)⟩)
   skip
   rintro⟨aQ,af⟩ w13 ⟨hS_,h0_,h1_,h2_,h3_,h4_,h5_,h6_,h7_,h8_,h9_,h10_⟩
   have ar:Aside0 (Kd.R (Kd.int .i64) 3 w13 w.heap.size (fun _=>True) aQ aH):=⟨h0_⟩
   replace aa:Aside0 (w13.heap[ac]? = some (.cells #[.slice ax ag.length av,.slice az ae.length aw] 25 (0,0))):=⟨h1_⟩
   replace ab:Aside0 (w13.heap[am]? = some (.cells #[.slice none 0 0,.slice none 0 0] 25 (0,0))):=⟨h2_⟩
   have ah:Aside0 (w13.heap[af]? = some (.cells #[.slice none 0 0,.slice none 0 0] 25 (0,0))):=⟨h3_⟩
   have aG:Aside0 (w.heap.size≤af):=⟨h4_⟩
   have aE:Aside0 (w.heap.size≤af):=⟨h5_⟩
   have aj:Aside0 (ac≠af):=⟨h6_⟩
   have ao:Aside0 (af≠ac):=⟨h7_⟩
   have ap:Aside0 (am≠af):=⟨h8_⟩
   have aq:Aside0 (af≠am):=⟨h9_⟩
   replace HB:Aside0 (Below w.heap.size w w13):=⟨h10_⟩
   clear h0_ h1_ h2_ h3_ h4_ h5_ h6_ h7_ h8_ h9_ h10_
   have hHeld:w13.cell? ⟨ac,0,none⟩=some (.slice ax ag.length av)∧w13.cell? ⟨ac,1,none⟩=some (.slice az ae.length aw):=hS_
   refine norm_ (a' := ?_) ?_ ?_
   rotate_left
   ·simp only [putAll,Act.put,List.setIfInBounds_toArray,List.set_cons_zero,List.set_cons_succ]
    rfl
   refine one_ (i:=11) (N:=some 23) (bs 15 12287) rfl rfl (one_of HT_.out (by kernel_rfl)) (by decide) (fun K hK => ?_)
   refine Kd.R_make_step (Kd.int .i64) _ 3 (by rfl) (N:=23) rfl 23 _ _ rfl aM rfl rfl Try.underlying23 (.int .i64 0) 8 info3 rfl (by decide) (by omega) 0 (ok:=fun _=>True) (okp:=fun _=>True) rfl (fun _ hk=>hk) trivial (zd) (Nat.le_trans (Nat.mul_le_mul_right _ (zd:aM.toNat≤35184372088832)) (by omega)) (Below.refl _ _) (Nat.le_refl _) ?_
   intro aT w14 aW hb hg_ hnew_
   clear hg_ hnew_
   (first|rw [← a5.out] at aW|(simp only [Int.reduceToNat] at aW;rw [← a5.out] at aW))
   have au:=A0_ (rL (Kd.R_new' aW (rX (zR_ ar))) (bZ (zB_ HB)))
   replace ar:=A0_ (Kd.R_elder' (zR_ ar) (Kd.R_base aW) hb)
   replace aa:=zK aa hb;replace ab:=zK ab hb;replace ah:=zK ah hb;replace HB:=zB HB hb;clear hb aW;obtain⟨bd,be,aZ⟩:=rS au.out
   (first|subst aZ|(injection aZ with f1_ f2_ f3_;have f4_:=f1_.symm;have f5_:=f3_.symm;clear f1_ f2_ f3_;subst f4_;subst f5_))
   obtain⟨bi,bj,ba⟩:=rS ar.out
   (first|subst ba|(injection ba with f1_ f2_ f3_;have f4_:=f1_.symm;have f5_:=f3_.symm;clear f1_ f2_ f3_;subst f4_;subst f5_))
   refine hK.out _ _ ⟨(kC aa.out 0).trans rfl,(kC aa.out 1).trans rfl⟩ (fun hHeld => ?_)
   clear hK K
   refine zN (some 23) ?_
   refine zP 12 (some 24) (bs 15 16383) ?_
   exact norm_ zA (a9 (.slice bi aH.length bj,.slice bd aK.length be,af) _ ⟨hHeld,(zmR ar (fun _ hk=>hk.2)),(zmR au (fun _ hk=>hk.2)),(zK_ aa),(zK_ ab),(zK_ ah),aG.out,aE.out,aj.out,ao.out,ap.out,aq.out,(zB_ HB)⟩)
  skip
  rintro⟨aQ,aT⟩ w16 ⟨hS_,h0_,h1_,h2_,h3_,h4_⟩
  have ar:Aside0 (Kd.R (Kd.int .i64) 3 w16 w.heap.size (fun k_=>nO k_ aT) aQ aH):=⟨h0_⟩
  have au:Aside0 (Kd.R (Kd.int .i64) 3 w16 w.heap.size (fun k_=>nO k_ aQ) aT aK):=⟨h1_⟩
  replace aa:Aside0 (w16.heap[ac]? = some (.cells #[.slice ax ag.length av,.slice az ae.length aw] 25 (0,0))):=⟨h2_⟩
  replace ab:Aside0 (w16.heap[am]? = some (.cells #[.slice none 0 0,.slice none 0 0] 25 (0,0))):=⟨h3_⟩
  replace HB:Aside0 (Below w.heap.size w w16):=⟨h4_⟩
  clear h0_ h1_ h2_ h3_ h4_
  have hHeld:w16.cell? ⟨ac,0,none⟩=some (.slice ax ag.length av)∧w16.cell? ⟨ac,1,none⟩=some (.slice az ae.length aw):=hS_
  obtain⟨bi,bj,ba⟩:=rS au.out
  (first|subst ba|(injection ba with f1_ f2_ f3_;have f4_:=f1_.symm;have f5_:=f3_.symm;clear f1_ f2_ f3_;subst f4_;subst f5_))
  obtain⟨bk,bl,bm⟩:=rS ar.out
  (first|subst bm|(injection bm with f1_ f2_ f3_;have f4_:=f1_.symm;have f5_:=f3_.symm;clear f1_ f2_ f3_;subst f4_;subst f5_))
  refine norm_ (a' := ?_) ?_ ?_
  rotate_left
  ·simp only [putAll,Act.put,List.setIfInBounds_toArray,List.set_cons_zero,List.set_cons_succ]
   rfl
  refine one_ (i:=13) (N:=some 7) (bs 15 16383) rfl rfl (one_of HT_.out (by kernel_rfl)) (by decide) (fun K hK => ?_)
  refine zbx (N:=7) (cs := #[.slice none 0 0,.slice none 0 0]) (t:=25) ?_
  intro af hg w19 hbox hb
  replace ar:=zR ar hb;replace au:=zR au hb
  have ah:=A0_ (hbox)
  have aG:=zG hg HB;have aE:=zG hg HB;replace HB:=zB HB hb;have aj:=zL hg aa;have ao:=zM hg aa;replace aa:=zK aa hb;have ap:=zL hg ab;have aq:=zM hg ab;replace ab:=zK ab hb;clear hb hbox hg
  refine hK.out _ _ ⟨(kC aa.out 0).trans rfl,(kC aa.out 1).trans rfl⟩ (fun hHeld => ?_)
  clear hK K
  refine zN (some 7) ?_
  exact norm_ zA (a9 (.slice bk aH.length bl,.slice bi aK.length bj,af) _ ⟨hHeld,(zR_ ar),(zR_ au),(zK_ aa),(zK_ ab),(zK_ ah),aG.out,aE.out,aj.out,ao.out,ap.out,aq.out,(zB_ HB)⟩)
 rintro⟨aQ,aT,af⟩ w17 ⟨hS_,h0_,h1_,h2_,h3_,h4_,h5_,h6_,h7_,h8_,h9_,h10_,h11_⟩
 have ar:Aside0 (Kd.R (Kd.int .i64) 3 w17 w.heap.size (fun k_=>nO k_ aT) aQ aH):=⟨h0_⟩
 have au:Aside0 (Kd.R (Kd.int .i64) 3 w17 w.heap.size (fun k_=>nO k_ aQ) aT aK):=⟨h1_⟩
 replace aa:Aside0 (w17.heap[ac]? = some (.cells #[.slice ax ag.length av,.slice az ae.length aw] 25 (0,0))):=⟨h2_⟩
 replace ab:Aside0 (w17.heap[am]? = some (.cells #[.slice none 0 0,.slice none 0 0] 25 (0,0))):=⟨h3_⟩
 have ah:Aside0 (w17.heap[af]? = some (.cells #[.slice none 0 0,.slice none 0 0] 25 (0,0))):=⟨h4_⟩
 have aG:Aside0 (w.heap.size≤af):=⟨h5_⟩
 have aE:Aside0 (w.heap.size≤af):=⟨h6_⟩
 have aj:Aside0 (ac≠af):=⟨h7_⟩
 have ao:Aside0 (af≠ac):=⟨h8_⟩
 have ap:Aside0 (am≠af):=⟨h9_⟩
 have aq:Aside0 (af≠am):=⟨h10_⟩
 replace HB:Aside0 (Below w.heap.size w w17):=⟨h11_⟩
 clear h0_ h1_ h2_ h3_ h4_ h5_ h6_ h7_ h8_ h9_ h10_ h11_
 have hHeld:w17.cell? ⟨ac,0,none⟩=some (.slice ax ag.length av)∧w17.cell? ⟨ac,1,none⟩=some (.slice az ae.length aw):=hS_
 obtain⟨bk,bl,bm⟩:=rS au.out
 (first|subst bm|(injection bm with f1_ f2_ f3_;have f4_:=f1_.symm;have f5_:=f3_.symm;clear f1_ f2_ f3_;subst f4_;subst f5_))
 obtain⟨bE,bF,ck⟩:=rS ar.out
 (first|subst ck|(injection ck with f1_ f2_ f3_;have f4_:=f1_.symm;have f5_:=f3_.symm;clear f1_ f2_ f3_;subst f4_;subst f5_))
 refine norm_ (a' := ?_) ?_ ?_
 rotate_left
 ·simp only [putAll,Act.put,List.setIfInBounds_toArray,List.set_cons_zero,List.set_cons_succ]
  rfl
 refine one_ (i:=14) (N:=none) (bs 15 32767) rfl rfl (one_of HT_.out (by kernel_rfl)) (by decide) (fun K hK => ?_)
 have ei:w17.cell? ⟨af,0,none⟩=some (.slice none 0 0):=(kC ah.out 0).trans rfl
 have dN:=kF ah.out 0;have dr:=aj.out;have dt:=ap.out;have du:=ao.out;have dv:=aq.out
 have ej:w17.cell? ⟨af,1,none⟩=some (.slice none 0 0):=(kC ah.out 1).trans rfl
 have dO:=kF ah.out 1;have dw:=aj.out;have dx:=ap.out;have dy:=ao.out;have dz:=aq.out
 refine skip_ (w1 := ?_) (by rfl) rfl ?_ ?_
 rotate_left
 ·go_simp
  rfl
 refine hK.out _ _ ⟨((cell_far (p:=⟨af,_,none⟩) aj.out _).trans (((cell_far (p:=⟨af,_,none⟩) aj.out _).trans (hHeld.1)))),((cell_far (p:=⟨af,_,none⟩) aj.out _).trans (((cell_far (p:=⟨af,_,none⟩) aj.out _).trans (hHeld.2))))⟩ (fun hHeld => ?_)
 clear hK K
 refine done_ (done_of HT_.out (by kernel_rfl)) ?_
 have dP:=a7.out;have dQ:=a8.out;have dR:=aj.out;have dS:=ao.out;have bp:=zc0 aa;have bq:=zc1 aa;have br:=kF aa.out 0;have bu:=kF aa.out 1
 try go_wp2
 go_loopg [28] k (fun kq v28 w' => ∃ (ai:Int) (aI:List Int) (aN:List Int) (u178000:Value) (u178001:Value),v28 = .int .i64 ai∧Aside0 (ie_.l0 kq a1 l2 ae (ae.length:Int) ai ag ae aI aN=some (r1,r2))∧Aside0 (kq≤k)∧Aside0 (Kd.R (Kd.int .i64) 3 w' w.heap.size (fun k_=>nO k_ u178001) u178000 aI)∧Aside0 (Kd.R (Kd.int .i64) 3 w' w.heap.size (fun k_=>nO k_ u178000) u178001 aN)∧Aside0 (w'.heap[ac]? = some (.cells #[(.slice ax ag.length av),(.slice az ae.length aw)] 25 (0,0)))∧Aside0 (w'.heap[am]? = some (.cells #[(.slice none 0 0),(.slice none 0 0)] 25 (0,0)))∧Aside0 (w'.heap[af]? = some (.cells #[u178000,u178001] 25 (0,0)))∧Aside0 (Below w.heap.size w w'))
 case atStart=>exact⟨(0),(aH),(aK),(.slice bE aH.length bF),(.slice bk aK.length bl),zt,H',⟨Nat.le_refl _⟩,⟨zF ar ah (.slice bE aH.length bF) (.slice bk aK.length bl) 0 1⟩,⟨zF au ah (.slice bE aH.length bF) (.slice bk aK.length bl) 0 1⟩,⟨by refine zbf ?_ _ (hp:=by exact aj.out);refine zbf ?_ _ (hp:=by exact aj.out);exact zK_ aa⟩,⟨by refine zbf ?_ _ (hp:=by exact ap.out);refine zbf ?_ _ (hp:=by exact ap.out);exact zK_ ab⟩,⟨by refine zbp (cs := #[.slice bE aH.length bF,.slice none 0 0]) ?_ 1 _ rfl;refine zbp (cs := #[.slice none 0 0,.slice none 0 0]) ?_ 0 _ rfl;exact zK_ ah⟩,⟨zB_ HB⟩⟩
 case round =>
  clear H';(try clear c2);(try clear bp);(try clear bq);(try clear br);(try clear bu);obtain⟨ai,aI,aN,u178000,u178001,rfl,HA,cd,ak,al,aa,ab,ah,HB⟩:=hrel
  cases gk with
  | zero=>exact absurd HA.out (by simp [ie_.l0])
  | succ k1 =>
   have H:=HA.out;clear HA;simp only [ie_.l0] at H
   by_cases bn:ai<(ae.length:Int)
   ·rw [if_pos bn] at H
    have ce:=dT bn;clear bn
    have cl:=zpc H;replace H:=zph H
    have cM:=dT cl;clear cl
    have cm:=zpc H;replace H:=zph H
    have cO:=dT cm;clear cm;obtain⟨cn,dM,H⟩:=zbind H;have H':=A0_ H;clear H
    have bG:0≤(ai:Int):=zd
    have bH:ai<(ae.length:Int):=zd
    obtain⟨bb,dl,bc⟩:=tI ca.out ai bG bH
    cases dl
    try replace bc:=(HB.out.cell (wL w _ bc)).trans bc
    replace bG:=eq_true bG;replace bH:=eq_true bH;have dU:=a7.out;have dV:=a8.out;have dW:=aj.out;have dX:=ao.out;have cg:=zc0 aa;have ch:=zc1 aa;have ci:=kF aa.out 0;have cj:=kF aa.out 1
    go_wp2_with (first|((with_reducible refine gC (f:=62) rfl ?_);refine zJ (some 36) Try.func62 #[.agg #[.slice ax ag.length av,.slice (some bb) ae.length aw],.slice A2 l2.length c2,.int .i64 ai] ?_;(with_reducible refine(ia_.calls k1 _ _ ag _ _ ae (fun k_=>k_<w.heap.size) _ _ l2 ai cn _ ?cP ?cQ ?cR ?cS ?cT dM.out).mono ?_);(case cP=>exact zC b9 HB);(case cQ=>exact cI.out);(case cR=>exact zC ca HB);(case cS=>exact cJ.out);(case cT=>exact Kd.V_mk dK.out (Kd.F_below (Kd.C_F (Kd.heap_slice 3 (Kd.heap_int .i64)) dJ.out) (zB_ HB)));rintro e w32 ⟨co,rfl,db,hb⟩;refine⟨_,rfl,?_⟩;have cU:=A0_ (Kd.V_lower (Kd.V_mono (ok':=fun k_=>nO k_ u178000∧nO k_ u178001∧k_≠ac∧k_≠am∧k_≠af) db (fun k_ hk_=>⟨Or.elim hk_ (fun hs_=>fun e_=>Nat.not_le.2 hs_ (Kd.R_base ak.out k_ e_.symm)) (fun hn_=>(Kd.fresh' (rX (zR_ ak)) k_ hn_)),Or.elim hk_ (fun hs_=>fun e_=>Nat.not_le.2 hs_ (Kd.R_base al.out k_ e_.symm)) (fun hn_=>(Kd.fresh' (rX (zR_ al)) k_ hn_)),Or.elim hk_ (fun hs_=>fun e_=>Nat.not_le.2 hs_ (by rw [e_];exact cK.out)) (fun hn_=>(Kd.freshB (g:=ac) (o := .cells #[.slice ax ag.length av,.slice (some bb) ae.length aw] 25 (0,0)) (zK_ aa) k_ hn_)),Or.elim hk_ (fun hs_=>fun e_=>Nat.not_le.2 hs_ (by rw [e_];exact cL.out)) (fun hn_=>(Kd.freshB (g:=am) (o := .cells #[.slice none 0 0,.slice none 0 0] 25 (0,0)) (zK_ ab) k_ hn_)),Or.elim hk_ (fun hs_=>fun e_=>Nat.not_le.2 hs_ (by rw [e_];exact aG.out)) (fun hn_=>(Kd.freshB (g:=af) (o := .cells #[u178000,u178001] 25 (0,0)) (zK_ ah) k_ hn_))⟩)) (bZ (zB_ HB)));replace ak:=zR ak hb;replace al:=zR al hb;replace aa:=zK aa hb;replace ab:=zK ab hb;replace ah:=zK ah hb;replace HB:=zB HB hb;(try clear hb);(try clear db)))
    (try generalize Value.pointer (some (bb.add (ai:Int).toNat))=pz_)
    go_loopg [38] k1 (fun kq v38 w' => ∃ (aD:List Int) (an:Int) (ay:List Int) (aA:List Int) (u178000:Value) (u178001:Value),v38 = .int .i64 an∧Aside0 (ie_.l1 kq a1 l2 ai (rd ae ai) aD ae (ae.length:Int) ai a1 an ag ae ay aA=some (r1,r2))∧Aside0 (kq≤k1)∧Aside0 (Kd.V (Kd.int .i64) 3 w' w.heap.size (fun k_=>nO k_ u178000∧nO k_ u178001∧k_≠ac∧k_≠am∧k_≠af) co aD)∧Aside0 (Kd.R (Kd.int .i64) 3 w' w.heap.size (fun k_=>nO k_ u178001) u178000 ay)∧Aside0 (Kd.R (Kd.int .i64) 3 w' w.heap.size (fun k_=>nO k_ u178000) u178001 aA)∧Aside0 (w'.heap[ac]? = some (.cells #[(.slice ax ag.length av),(.slice (some bb) ae.length aw)] 25 (0,0)))∧Aside0 (w'.heap[am]? = some (.cells #[(.slice none 0 0),(.slice none 0 0)] 25 (0,0)))∧Aside0 (w'.heap[af]? = some (.cells #[u178000,u178001] 25 (0,0)))∧Aside0 (Below w.heap.size w w'))
    case atStart=>exact⟨(cn),(0),(aI),(aN),(u178000),(u178001),zt,H',⟨Nat.le_refl _⟩,⟨by(with_reducible repeat(first|apply Kd.V_alloc|apply Kd.V_drewN|apply Kd.V_drew));exact cU.out⟩,⟨zR_ ak⟩,⟨zR_ al⟩,⟨zK_ aa⟩,⟨zK_ ab⟩,⟨zK_ ah⟩,⟨zB_ HB⟩⟩
    case round =>
     clear H';(try clear c2);(try clear c6);(try clear bn);(try clear ce);(try clear cl);(try clear cM);(try clear cm);(try clear cO);(try clear bp);(try clear bq);(try clear cg);(try clear ch);(try clear br);(try clear bu);(try clear ci);(try clear cj);(try clear bc);(try clear bG);(try clear bH);obtain⟨aD,an,ay,aA,u178000,u178001,rfl,HA,cf,aU,ak,al,aa,ab,ah,HB⟩:=hrel
     cases gk with
     | zero=>exact absurd HA.out (by simp [ie_.l1])
     | succ k2 =>
      have H:=HA.out;clear HA;simp only [ie_.l1] at H
      by_cases bv:an<a1
      ·rw [if_pos bv] at H
       have cV:=dT bv;clear bv
       have dc:=zpc H;replace H:=zph H
       have dY:=dT dc;clear dc
       have dd:=zpc H;replace H:=zph H
       have dZ:=dT dd;clear dd
       obtain⟨aC,bI⟩ : ∃ j_:Int,(wrap64 ((wrap64 (a1*ai))+an))=j_:=⟨_,rfl⟩
       replace H:(if 0≤(aC) then (if (aC)<(ay.length:Int) then (if 0≤an then (if an<(aD.length:Int) then (if (aC)<(aA.length:Int) then (ie_.l1 k2 a1 l2 ai (rd ae ai) aD ae (ae.length:Int) ai a1 (wrap64 (an+1)) ag ae (ay.set ((aC):Int).toNat (wrap64 ((wrap64 (a1*(rd ag ai)))+an))) (aA.set ((aC):Int).toNat (wrap64 ((wrap64 (a1*(rd ae ai)))+(rd aD an))))) else (none)) else (none)) else (none)) else (none)) else (none))=some (r1,r2):=by first|(rw [bI] at H;exact H)|(simp only [bI] at H ⊢;exact H)
       have hji36w:(IntKind.i64.wrap ((wrap64 (a1*ai))+an))=aC:=(i64_w _).trans bI
       have de:=zpc H;replace H:=zph H
       have d0:=dT de;clear de
       have df:=zpc H;replace H:=zph H
       have d3:=dT df;clear df
       obtain⟨bJ,bK⟩ : ∃ y_:List Int,y_=(ay.set ((aC):Int).toNat (wrap64 ((wrap64 (a1*(rd ag ai)))+an))):=⟨_,rfl⟩
       replace H:(if 0≤an then (if an<(aD.length:Int) then (if (aC)<(aA.length:Int) then (ie_.l1 k2 a1 l2 ai (rd ae ai) aD ae (ae.length:Int) ai a1 (wrap64 (an+1)) ag ae bJ (aA.set ((aC):Int).toNat (wrap64 ((wrap64 (a1*(rd ae ai)))+(rd aD an))))) else (none)) else (none)) else (none))=some (r1,r2):=zH bK H
       have cW:=A0_ bK;clear bK
       have dg:=zpc H;replace H:=zph H
       have d4:=dT dg;clear dg
       have dh:=zpc H;replace H:=zph H
       have d5:=dT dh;clear dh
       have di:=zpc H;replace H:=zph H
       have d6:=dT di;clear di
       obtain⟨cp,bL⟩ : ∃ y_:List Int,y_=(aA.set ((aC):Int).toNat (wrap64 ((wrap64 (a1*(rd ae ai)))+(rd aD an)))):=⟨_,rfl⟩
       replace H:(ie_.l1 k2 a1 l2 ai (rd ae ai) aD ae (ae.length:Int) ai a1 (wrap64 (an+1)) ag ae bJ cp)=some (r1,r2):=zH bL H
       have cX:=A0_ bL;clear bL;have H':=A0_ H;clear H
       try go_wp2
       replace aU:=A0_ (Kd.V_drew aU.out)
       replace ak:=A0_ (rD ak.out)
       replace al:=A0_ (rD al.out)
       replace aa:=A0_ (kD aa.out)
       replace ab:=A0_ (kD ab.out)
       replace ah:=A0_ (kD ah.out)
       replace HB:=A0_ (bD HB.out)
       have bW:0≤(ai:Int):=zd
       have bX:ai<(ag.length:Int):=zd
       obtain⟨bM,dm,a6⟩:=tI b9.out ai bW bX;have bw:=a6
       cases dm
       try replace a6:=(HB.out.cell (wL w _ a6)).trans a6
       replace bW:=eq_true bW;replace bX:=eq_true bX
       have cq:0≤((aC):Int):=zd
       have cr:((aC):Int)<((ay.length:Int):Int):=zd
       obtain⟨aJ,bf,ct,cu,gl39,cl39,HG39⟩:=Kd.R_form ak.out (by omega)
       (first|cases ct|(injection ct with ea_ en_ ec_;(first|subst ea_|(injection ea_ with ea_;subst ea_));subst ec_;clear en_))
       have GB39:=A0_ cu;have GG39:=A0_ HG39;clear cu gl39 HG39
       obtain⟨cv,cw⟩:=Kd.R_celln 0 ak.out ((aC):Int) cq cr
       replace cq:=eq_true cq;replace cr:=eq_true cr
       have HP45:=Kd.R_putn ak.out ((aC):Int) (wrap64 ((wrap64 (a1*(rd ag ai)))+an))
       rw [← cW.out] at HP45
       have HQ45:=A0_ HP45;clear HP45
       refine start_ (n:=18) (S:=fun w'=>w'.cell? ⟨af,0,none⟩=some (.slice (some ⟨aJ,0,none⟩) ay.length bf)∧w'.cell? ⟨af,1,none⟩=some (u178001)∧w'.cell? ⟨ac,0,none⟩=some (.slice (some bM) ag.length av)∧w'.cell? ⟨ac,1,none⟩=some (.slice (some bb) ae.length aw)∧w'.cell? (bM.add (ai).toNat)=some (.int .i64 (rd ag ai))) (ds := [17]) (bs 18 0) (by kernel_rfl) rfl rfl ⟨(kC ah.out 0).trans rfl,(kC ah.out 1).trans rfl,(kC aa.out 0).trans rfl,(kC aa.out 1).trans rfl,((HB.out.cell (wL w _ bw)).trans bw)⟩ (fun hHeld => ?_);refine with_tabW ie_.tab9 ie_.bits9 (fun HT_ HW_ => ?_)
       generalize wr.drew=w44 at aU ak al aa ab ah HB GG39 HQ45 cw a6 cv hHeld ⊢
       refine zP 0 (some 41) (bs 18 1) ?_
       refine zP 2 (some 43) (bs 18 5) ?_
       refine zP 3 (some 44) (bs 18 13) ?_
       refine zP 4 (some 45) (bs 18 29) ?_
       refine zP 5 (some 46) (bs 18 61) ?_
       refine zP 6 (some 47) (bs 18 125) ?_
       refine zP 7 (some 48) (bs 18 253) ?_
       refine zP 8 (some 49) (bs 18 509) ?_
       refine zP 10 (some 51) (bs 18 1533) ?_
       refine zP 14 (some 55) (bs 18 17917) ?_
       refine zT 1 (some 42) (bs 18 17919) hHeld ?_
       refine zT 9 (some 50) (bs 18 18431) hHeld ?_
       refine zP 11 (some 52) (bs 18 20479) ?_
       refine zT 12 (some 53) (bs 18 24575) hHeld ?_
       refine zP 13 (some 54) (bs 18 32767) ?_
       refine zP 15 (some 56) (bs 18 65535) ?_
       refine zP 16 (some 57) (bs 18 131071) ?_
       refine last_ (i:=17) (N:=none) (bs 18 262143) rfl rfl (one_of HT_.out (by kernel_rfl)) (by decide) (fun K hK => ?_)
       refine skip_ (w1 := ?_) (by rfl) rfl ?_ ?_
       rotate_left
       ·go_simp
        rfl
       refine hK.out _ _ ?_
       clear hK K
       refine done_ (done_of HT_.out (by kernel_rfl)) ?_
       try go_wp2
       have n0_:Aside0 (Kd.V (Kd.int .i64) 3 (w44.setCell ⟨aJ,((aC):Int).toNat,none⟩ (.int .i64 (wrap64 ((wrap64 (a1*(rd ag ai)))+an)))) w.heap.size (fun k_=>some k_≠(.slice (some ⟨aJ,0,none⟩) ay.length bf:Value).ownBlock∧nO k_ u178001∧k_≠ac∧k_≠am∧k_≠af) co aD):=⟨by(with_reducible repeat(first|apply Kd.V_alloc|apply Kd.V_drewN|apply Kd.V_drew));exact Kd.V_mono (Kd.V_far (p:=⟨aJ,((aC):Int).toNat,none⟩) (Kd.V_mono aU.out (fun k_ hk=>(⟨hk,fun e_=>hk.1 (by rw [e_];rfl)⟩:_∧k_≠aJ))) (fun _ hk=>hk.2) (.int .i64 (wrap64 ((wrap64 (a1*(rd ag ai)))+an)))) (fun _ hk=>⟨hk.1.1,⟨hk.1.2.1,⟨hk.1.2.2.1,⟨hk.1.2.2.2.1,hk.1.2.2.2.2⟩⟩⟩⟩)⟩
       have n1_:Aside0 (Kd.R (Kd.int .i64) 3 (w44.setCell ⟨aJ,((aC):Int).toNat,none⟩ (.int .i64 (wrap64 ((wrap64 (a1*(rd ag ai)))+an)))) w.heap.size (fun k_=>nO k_ u178001) (.slice (some ⟨aJ,0,none⟩) ay.length bf) bJ):=⟨zR_ HQ45⟩
       have n2_:Aside0 (Kd.R (Kd.int .i64) 3 (w44.setCell ⟨aJ,((aC):Int).toNat,none⟩ (.int .i64 (wrap64 ((wrap64 (a1*(rd ag ai)))+an)))) w.heap.size (fun k_=>some k_≠(.slice (some ⟨aJ,0,none⟩) ay.length bf:Value).ownBlock) u178001 aA):=⟨by(with_reducible repeat(first|apply rA|apply rN|apply rD));exact rM (rF (p:=⟨aJ,((aC):Int).toNat,none⟩) (rM al.out (fun k_ hk=>(⟨hk,fun e_=>hk (by rw [e_];rfl)⟩:_∧k_≠aJ))) (fun _ hk=>hk.2) (.int .i64 (wrap64 ((wrap64 (a1*(rd ag ai)))+an)))) (fun _ hk=>hk.1)⟩
       have n3_:Aside0 ((w44.setCell ⟨aJ,((aC):Int).toNat,none⟩ (.int .i64 (wrap64 ((wrap64 (a1*(rd ag ai)))+an)))).heap[ac]? = some (.cells #[.slice (some bM) ag.length av,.slice (some bb) ae.length aw] 25 (0,0))):=⟨by refine zbf ?_ _ (hp:=by have h_:=Kd.R_ne ak.out aa.out (by decide);intro e_;exact h_ (by rw [e_];rfl));exact zK_ aa⟩
       have n4_:Aside0 ((w44.setCell ⟨aJ,((aC):Int).toNat,none⟩ (.int .i64 (wrap64 ((wrap64 (a1*(rd ag ai)))+an)))).heap[am]? = some (.cells #[.slice none 0 0,.slice none 0 0] 25 (0,0))):=⟨by refine zbf ?_ _ (hp:=by have h_:=Kd.R_ne ak.out ab.out (by decide);intro e_;exact h_ (by rw [e_];rfl));exact zK_ ab⟩
       have n5_:Aside0 ((w44.setCell ⟨aJ,((aC):Int).toNat,none⟩ (.int .i64 (wrap64 ((wrap64 (a1*(rd ag ai)))+an)))).heap[af]? = some (.cells #[.slice (some ⟨aJ,0,none⟩) ay.length bf,u178001] 25 (0,0))):=⟨by refine zbf ?_ _ (hp:=by have h_:=Kd.R_ne ak.out ah.out (by decide);intro e_;exact h_ (by rw [e_];rfl));exact zK_ ah⟩
       have n6_:Aside0 (Below w.heap.size w (w44.setCell ⟨aJ,((aC):Int).toNat,none⟩ (.int .i64 (wrap64 ((wrap64 (a1*(rd ag ai)))+an))))):=⟨by repeat(first|(with_reducible first|exact HB.out|apply bA|apply bN|apply bD|refine bS ?_ GB39.out|refine bS ?_ cb.out|refine bS ?_ cc.out|refine bS ?_ aE.out)|exact HB.out)⟩
       (try clear aU);(try clear ak);(try clear al);(try clear aa);(try clear ab);(try clear ah);(try clear HB)
       generalize (w44.setCell ⟨aJ,((aC):Int).toNat,none⟩ (.int .i64 (wrap64 ((wrap64 (a1*(rd ag ai)))+an))))=w46 at n0_ n1_ n2_ n3_ n4_ n5_ n6_ ⊢
       have aU:=n0_;have ak:=n1_;have al:=n2_;have aa:=n3_;have ab:=n4_;have ah:=n5_;have HB:=n6_;clear n0_ n1_ n2_ n3_ n4_ n5_ n6_
       replace aU:=A0_ (Kd.V_drew aU.out)
       replace ak:=A0_ (rD ak.out)
       replace al:=A0_ (rD al.out)
       replace aa:=A0_ (kD aa.out)
       replace ab:=A0_ (kD ab.out)
       replace ah:=A0_ (kD ah.out)
       replace HB:=A0_ (bD HB.out)
       obtain⟨ek,el,cx⟩:=Kd.V_slice aU.out
       (first|subst cx|(injection cx with f1_ f2_ f3_;have f4_:=f1_.symm;have f5_:=f3_.symm;clear f1_ f2_ f3_;subst f4_;subst f5_))
       have bY:0≤(an:Int):=zd
       have b2:an<(aD.length:Int):=zd
       obtain⟨cY,dn,bx⟩:=tI (Kd.V_reads' aU.out).2.2 an bY b2
       cases dn
       replace bY:=eq_true bY;replace b2:=eq_true b2
       have cy:0≤((aC):Int):=zd
       have cz:((aC):Int)<((aA.length:Int):Int):=zd
       obtain⟨bg,cC,cE,cF,gl43,cl43,HG43⟩:=Kd.R_form al.out (by omega)
       (first|cases cE|(injection cE with ea_ en_ ec_;(first|subst ea_|(injection ea_ with ea_;subst ea_));subst ec_;clear en_))
       have GB43:=A0_ cF;have GG43:=A0_ HG43;clear cF gl43 HG43
       obtain⟨cG,cH⟩:=Kd.R_celln 0 al.out ((aC):Int) cy cz
       replace cy:=eq_true cy;replace cz:=eq_true cz
       have HP49:=Kd.R_putn al.out ((aC):Int) (wrap64 ((wrap64 (a1*(rd ae ai)))+(rd aD an)))
       rw [← cX.out] at HP49
       have HQ49:=A0_ HP49;clear HP49
       refine start_ (n:=17) (S:=fun w'=>w'.cell? ⟨af,0,none⟩=some (.slice (some ⟨aJ,0,none⟩) ay.length bf)∧w'.cell? ⟨af,1,none⟩=some (.slice (some ⟨bg,0,none⟩) aA.length cC)∧w'.cell? (cY.add (an).toNat)=some (.int .i64 (rd aD an))) (ds := [16]) (bs 17 0) (by kernel_rfl) rfl rfl ⟨(kC ah.out 0).trans rfl,(kC ah.out 1).trans rfl,bx⟩ (fun hHeld => ?_);refine with_tabW ie_.tab10 ie_.bits10 (fun HT_ HW_ => ?_)
       generalize w46.drew=w47 at aU ak al aa ab ah HB GG43 HQ45 HQ49 cH bx cG hHeld ⊢
       refine zP 0 (some 58) (bs 17 1) ?_
       refine zP 2 (some 60) (bs 17 5) ?_
       refine zP 3 (some 61) (bs 17 13) ?_
       refine zP 4 (some 62) (bs 17 29) ?_
       refine zP 5 (some 63) (bs 17 61) ?_
       refine zP 6 (some 64) (bs 17 125) ?_
       refine zP 7 (some 65) (bs 17 253) ?_
       refine zP 8 (some 66) (bs 17 509) ?_
       refine zP 9 (some 67) (bs 17 1021) ?_
       refine zP 10 (some 68) (bs 17 2045) ?_
       refine zP 11 (some 69) (bs 17 4093) ?_
       refine zP 12 (some 70) (bs 17 8189) ?_
       refine zT 1 (some 59) (bs 17 8191) hHeld ?_
       refine zT 13 (some 71) (bs 17 16383) hHeld ?_
       refine zP 14 (some 72) (bs 17 32767) ?_
       refine zP 15 (some 73) (bs 17 65535) ?_
       refine last_ (i:=16) (N:=none) (bs 17 131071) rfl rfl (one_of HT_.out (by kernel_rfl)) (by decide) (fun K hK => ?_)
       refine skip_ (w1 := ?_) (by rfl) rfl ?_ ?_
       rotate_left
       ·go_simp
        rfl
       refine hK.out _ _ ?_
       clear hK K
       refine done_ (done_of HT_.out (by kernel_rfl)) ?_
       try go_wp2
       go_roundg k2
       case measure=>have:=cd.out;have:=cf.out;omega
       case rel=>exact⟨(aD),(wrap64 (an+1)),(bJ),(cp),(.slice (some ⟨aJ,0,none⟩) ay.length bf),(.slice (some ⟨bg,0,none⟩) aA.length cC),zt,H',⟨by have:=cd.out;have:=cf.out;omega⟩,⟨by(with_reducible repeat(first|apply Kd.V_alloc|apply Kd.V_drewN|apply Kd.V_drew));exact Kd.V_mono (Kd.V_far (p:=⟨bg,((aC):Int).toNat,none⟩) (Kd.V_mono aU.out (fun k_ hk=>(⟨hk,fun e_=>hk.2.1 (by rw [e_];rfl)⟩:_∧k_≠bg))) (fun _ hk=>hk.2) (.int .i64 (wrap64 ((wrap64 (a1*(rd ae ai)))+(rd aD an))))) (fun _ hk=>⟨hk.1.1,⟨hk.1.2.1,⟨hk.1.2.2.1,⟨hk.1.2.2.2.1,hk.1.2.2.2.2⟩⟩⟩⟩)⟩,⟨by(with_reducible repeat(first|apply rA|apply rN|apply rD));exact rM (rF (p:=⟨bg,((aC):Int).toNat,none⟩) (rM ak.out (fun k_ hk=>(⟨hk,fun e_=>hk (by rw [e_];rfl)⟩:_∧k_≠bg))) (fun _ hk=>hk.2) (.int .i64 (wrap64 ((wrap64 (a1*(rd ae ai)))+(rd aD an))))) (fun _ hk=>hk.1)⟩,⟨zR_ HQ49⟩,⟨by refine zbf ?_ _ (hp:=by have h_:=Kd.R_ne al.out aa.out (by decide);intro e_;exact h_ (by rw [e_];rfl));exact zK_ aa⟩,⟨by refine zbf ?_ _ (hp:=by have h_:=Kd.R_ne al.out ab.out (by decide);intro e_;exact h_ (by rw [e_];rfl));exact zK_ ab⟩,⟨by refine zbf ?_ _ (hp:=by have h_:=Kd.R_ne al.out ah.out (by decide);intro e_;exact h_ (by rw [e_];rfl));exact zK_ ah⟩,⟨by repeat(first|(with_reducible first|exact HB.out|apply bA|apply bN|apply bD|refine bS ?_ GB43.out|refine bS ?_ cb.out|refine bS ?_ cc.out|refine bS ?_ aE.out)|exact HB.out)⟩⟩
      rw [if_neg bv] at H;have cV:=dF bv;clear bv;have H':=A0_ H;clear H
      go_wp2
      go_roundg k2
      case measure=>have:=cd.out;have:=cf.out;omega
      case rel=>exact⟨(wrap64 (ai+1)),(ay),(aA),(u178000),(u178001),zt,H',⟨by have:=cd.out;have:=cf.out;omega⟩,⟨zR_ ak⟩,⟨zR_ al⟩,⟨zK_ aa⟩,⟨zK_ ab⟩,⟨zK_ ah⟩,⟨zB_ HB⟩⟩
   rw [if_neg bn] at H;have ce:=dF bn;clear bn;simp only [Option.some.injEq,Prod.mk.injEq] at H;obtain⟨rfl,rfl⟩:=H;have d7:=ao.out;have d8:=aj.out;have d9:=aq.out;have ea:=ap.out
   have dA:wr.cell? ⟨af,0,none⟩=some (u178000):=(kC ah.out 0).trans rfl
   have dB:wr.cell? ⟨af,1,none⟩=some (u178001):=(kC ah.out 1).trans rfl
   have dC:=kF ah.out 0;have dD:=kF ah.out 1;obtain⟨bO,bP,dp⟩:=rS ak.out;subst dp;have eb:=a8.out;have ec:=a7.out;have dE:=zc0 ab;have dG:=zc1 ab;have dH:=kF ab.out 0;have dI:=kF ab.out 1;obtain⟨b3,b4,dq⟩:=rS al.out;subst dq
   go_wp2
   refine bodyPost_ret (results_cell_row rfl _ _ am 25 #[.slice bO aI.length bP,.slice b3 aN.length b4] (0,0) _ rfl (by refine zbp (cs := #[.slice bO aI.length bP,.slice none 0 0]) ?_ 1 _ rfl;refine zbp (cs := #[.slice none 0 0,.slice none 0 0]) ?_ 0 _ rfl;exact zK_ ab) Try.underlying25 rfl (by kernel_rfl)) rfl ?_
   exact⟨_,_,by first|rfl|(simp [errW_none,errW_some] <;> rfl)|(simp only [← bz];first|rfl|(simp [errW_none,errW_some] <;> rfl))|(simp [*,errW_none,errW_some] <;> rfl),zF ak ab (.slice bO aI.length bP) (.slice b3 aN.length b4) 0 1,zF al ab (.slice bO aI.length bP) (.slice b3 aN.length b4) 0 1,zB_ HB⟩
end Go.Proofs.Ytmegggomhjgehaa.PFnCoverConj
