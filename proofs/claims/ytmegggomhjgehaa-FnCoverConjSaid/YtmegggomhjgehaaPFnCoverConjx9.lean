import Derived.Test.YtmegggomhjgehaaPFnCoverConjx8
namespace Go.Proofs.Ytmegggomhjgehaa.PFnCoverConj
open Go.RowKit Go.Proofs.YtmegggomhjgehaaW.PrintWords Go.Proofs.YtmegggomhjgehaaW.PrintLast Go.Proofs.YtmegggomhjgehaaW.PrintMore
set_option maxHeartbeats 8000000
set_option maxRecDepth 100000
attribute [local go_sem] max2_int min2_int max_two min_two max_three min_three max_four min_four
mutual
def s1i_.j0:Nat→Int→Bool→List Int→Int→List Int→List Int→Option (List Int×List Int×Int×(List (List Int))×Int)
  | 0,_,_,_,_,_,_=>none
  | k+1,x5,ah,aa,ac,af,ag=>if ah=true then ((s1f_.f k aa ac 1).bind fun ab=>((s1a_.f k aa ab.2.2 6).bind fun ae=>(s1i_.j1 k (wrap64 (1+ae.1)) aa ae.2 ab.1 ab.2.1))) else (s1i_.j1 k x5 aa ac af ag)
def s1i_.j1:Nat→Int→List Int→Int→List Int→List Int→Option (List Int×List Int×Int×(List (List Int))×Int)
  | 0,_,_,_,_,_=>none
  | k+1,x5,ac,ae,aa,ab=>s1i_.l0 k x5 (([]:List (List Int))) 0 ac ae aa ab
def s1i_.l0:Nat→Int→List (List Int)→Int→List Int→Int→List Int→List Int→Option (List Int×List Int×Int×(List (List Int))×Int)
  | 0,_,_,_,_,_,_,_=>none
  | k+1,x5,x7,x8,ae,ag,ab,aa=>if x8<(wrap64 ((aa.length:Int) / 2)) then ((s1g_.f k ae ag x5).bind fun ah=>(if x7.length<5864062014805 then (s1i_.l0 k x5 (x7 ++ [ah.1]) (wrap64 (x8+1)) ae ah.2 ab aa) else (none))) else ((s1a_.f k ae ag 40).bind fun ac=>(if ac.1=0 then ((some (([0,7,wrap64 (x5+1)]:List Int):List Int)).bind fun ai=>((s1a_.f k ae ac.2 3).bind fun af=>(if 0≤af.1 then (if af.1<(ai.length:Int) then (some (ab,aa,rd ai af.1,x7,af.2)) else (none)) else (none)))) else (if ac.1=1 then ((s15_.f k x5).bind fun aj=>(if x7.length<5864062014805 then (some (ab,aa,x5,(x7 ++ [aj]),ac.2)) else (none))) else (some (ab,aa,x5,x7,ac.2)))))
end
def s1i_.f (k:Nat) (s0_0:List Int) (s0_1:Int):Option (List Int×List Int×Int×(List (List Int))×Int):=(s1a_.f k s0_0 s0_1 3).bind fun aa=>(if (wrap64 (1+aa.1))=0 then (none) else ((s1f_.f k s0_0 aa.2 (wrap64 (Int.tdiv 6 (wrap64 (1+aa.1))))).bind fun ab=>(if (wrap64 (1+aa.1))=1 then ((s1a_.f k s0_0 ab.2.2 2).bind fun ac=>(s1i_.j0 k (wrap64 (1+aa.1)) (ac.1 == 0) s0_0 ac.2 ab.1 ab.2.1)) else (s1i_.j0 k (wrap64 (1+aa.1)) false s0_0 ab.2.2 ab.1 ab.2.1))))
def s1i_.T13:Bool×List (List Nat×List Nat):=(true,[([],[]),([],[]),([1],[1]),([2],[2]),([],[]),([4],[4]),([3,5],[3,5]),([6],[6]),([],[]),([0,5,0],[0]),([7,9,0,1,2,3,4,5,6,7,9],[7]),([8,10,0,1,2,3,4,5,6,7,8,9,10],[8])])
def s1i_.B13:List Nat := [0,0,2,6,0,16,62,126,0,49,767,2047]
theorem s1i_.tab13:rtab .any (opsOf Try.f51 13)=s1i_.T13:=by kernel_rfl
theorem s1i_.bits13:waitsOk s1i_.T13.2 s1i_.B13=true:=by kernel_rfl
def s1i_.T15:Bool×List (List Nat×List Nat):=(true,[([],[]),([],[]),([],[]),([],[]),([3],[3]),([4],[4]),([2,5,4],[2,5]),([0,6,0],[0]),([1,7,0,1,7],[1]),([6,8,0,1,2,3,4,5,6,7,8],[6])])
def s1i_.B15:List Nat := [0,0,0,0,8,24,60,125,255,511]
theorem s1i_.tab15:rtab .any (opsOf Try.f51 15)=s1i_.T15:=by kernel_rfl
theorem s1i_.bits15:waitsOk s1i_.T15.2 s1i_.B15=true:=by kernel_rfl
theorem s1i_.calls (k:Nat) (g:Nat) (s0_0:List Int) (s0_1:Int) (r1:List Int) (r2:List Int) (r3:Int) (r4:List (List Int)) (r5:Int) (w0 w:World) (hI:IsS82 w0 w g s0_0 s0_1) (hB:Below w0.heap.size w0 w) (h:s1i_.f k s0_0 s0_1=some (r1,r2,r3,r4,r5)) :
    Calls Try.prog 51 #[.pointer (some ⟨g,0,none⟩)] w fun e w' => ∃ v0_ v1_ v3_:Value,e = .returned (.tuple #[.agg #[v0_,v1_],.int .i64 r3,v3_])∧Kd.Q (Kd.int .i64) 3 w' w.heap.size (fun k_=>nO k_ v1_) v0_ r1∧Kd.R (Kd.int .i64) 3 w' w.heap.size (fun k_=>nO k_ v0_) v1_ r2∧Kd.S (Kd.slice 3 (Kd.int .i64)) 23 w' w.heap.size (fun k_=>nO k_ v0_∧nO k_ v1_) v3_ r4∧IsS82 w0 w' g s0_0 r5∧Below w0.heap.size w0 w'∧KeepBut w w' g none:=by
 have e7:=Try.underlying25;have HI0:=A0_ hI
 have HK:=A0_ (KeepBut.refl w g none)
 have HL:=A0_ hB.size;clear hI;have HW0:=A0_ hB.size;have HB:=A0_ hB;clear hB
 have H:((s1a_.f k s0_0 s0_1 3).bind fun be=>(if (wrap64 (1+be.1))=0 then (none) else ((s1f_.f k s0_0 be.2 (wrap64 (Int.tdiv 6 (wrap64 (1+be.1))))).bind fun bf=>(if (wrap64 (1+be.1))=1 then ((s1a_.f k s0_0 bf.2.2 2).bind fun cm=>(s1i_.j0 k (wrap64 (1+be.1)) (cm.1 == 0) s0_0 cm.2 bf.1 bf.2.1)) else (s1i_.j0 k (wrap64 (1+be.1)) false s0_0 bf.2.2 bf.1 bf.2.1)))))=some (r1,r2,r3,r4,r5):=h
 clear h;obtain⟨⟨aQ,cE⟩,A2,H⟩:=zbind H;dsimp only at H
 have c3:=zqc H;replace H:=zqh H
 have ca:((wrap64 (1+aQ)) == 0)=false:=beq_eq_false_iff_ne.mpr c3
 have cb:((wrap64 (1+aQ)) != 0)=true:=bne_iff_ne.mpr c3
 obtain⟨⟨aG,aH,bg⟩,A4,H⟩:=zbind H;dsimp only at H;have cF:=A0_ H;clear H
 go_enter Try.func51,Try.ntmps51
 go_upto_region 3 with(first|((with_reducible refine gD (N:=2) rfl ?_);refine zX (N:=2) (cs := #[.slice none 0 0,.slice none 0 0]) (t:=25) ?_;intro ah hg w6 hbox hb;replace HB:=A0_ (bT (zBw HB) hb);have ag:=A0_ (hbox);have ex:=A0_ ((by rw [hg];exact(keep_size (w:=w) (g:=g) (row:=none) (zKp HK)):w.heap.size≤ah));have aK:=A0_ ((Nat.le_trans HW0.out (by rw [hg];exact(keep_size (w:=w) (g:=g) (row:=none) (zKp HK)):w.heap.size≤ah):w0.heap.size≤ah));replace HK:=A0_ (KeepBut.trans (zKp HK) (KeepBut.of_below hb g none) (.inl rfl));have aD:=A0_ ((by rw [hg];exact Nat.ne_of_lt (IsS82.lt (show IsS82 w0 _ g s0_0 s0_1 from zIs HI0)):g≠ah));have aE:=A0_ ((by rw [hg];exact Nat.ne_of_gt (IsS82.lt (show IsS82 w0 _ g s0_0 s0_1 from zIs HI0)):ah≠g));replace HI0:=A0_ (IsS82.below (zIs HI0) hb);clear hb hbox hg)|((with_reducible refine gC (f:=74) rfl ?_);refine zJ (some 10) Try.func74 #[.pointer (some ⟨g,0,none⟩),.int .i64 3] ?_;(with_reducible refine(s1a_.calls k g s0_0 s0_1 3 aQ cE w0 _ ?ay ?az A2.out).mono ?_);(case ay=>repeat(first|(with_reducible first|exact HI0.out|apply IsS82.alloc|apply IsS82.drewN|apply IsS82.drew|apply IsS82.set_1|refine IsS82.far ?_ aD.out _)|exact HI0.out));(case az=>repeat(first|(with_reducible first|exact HB.out|apply bA|apply bN|apply bD|refine bS ?_ (IsS82.ge HI0.out)|refine bS ?_ aK.out)|exact HB.out));rintro e w7 ⟨rfl,hi,hb,hk⟩;refine⟨_,rfl,?_⟩;replace ag:=A0_ (KeepBut.blk hk (g':=ah) (o := .cells #[.slice none 0 0,.slice none 0 0] 25 (0,0)) (zK_ ag) aE.out (by simp));replace HK:=A0_ (KeepBut.trans (zKp HK) hk (.inl rfl));replace HB:=A0_ (hb);replace HI0:=A0_ (hi);(try clear hb))|((with_reducible refine gC (f:=75) rfl ?_);refine zJ (some 15) Try.func75 #[.pointer (some ⟨g,0,none⟩),.int .i64 (wrap64 (Int.tdiv 6 (wrap64 (1+aQ))))] ?_;(with_reducible refine(s1f_.calls k g s0_0 cE (wrap64 (Int.tdiv 6 (wrap64 (1+aQ)))) aG aH bg w0 _ ?ay ?az A4.out).mono ?_);(case ay=>repeat(first|(with_reducible first|exact HI0.out|apply IsS82.alloc|apply IsS82.drewN|apply IsS82.drew|apply IsS82.set_1|refine IsS82.far ?_ aD.out _)|exact HI0.out));(case az=>repeat(first|(with_reducible first|exact HB.out|apply bA|apply bN|apply bD|refine bS ?_ (IsS82.ge HI0.out)|refine bS ?_ aK.out)|exact HB.out));rintro e w8 ⟨e8,e9,rfl,aM,bF,hi,hb,hk⟩;refine⟨_,rfl,?_⟩;replace ag:=A0_ (KeepBut.blk hk (g':=ah) (o := .cells #[.slice none 0 0,.slice none 0 0] 25 (0,0)) (zK_ ag) aE.out (by simp));have a7:=A0_ (Kd.Q_lower aM (keep_size (w:=w) (g:=g) (row:=none) (zKp HK)));have a8:=A0_ (rL bF (keep_size (w:=w) (g:=g) (row:=none) (zKp HK)));replace HK:=A0_ (KeepBut.trans (zKp HK) hk (.inl rfl));replace HB:=A0_ (hb);replace HI0:=A0_ (hi);(try clear hb);(try clear aM);(try clear bF))|((with_reducible refine gD (N:=6) rfl ?_);refine zX (N:=6) (cs := #[.slice none 0 0,.slice none 0 0]) (t:=25) ?_;intro ak hg w9 hbox hb;replace a7:=A0_ (Kd.Q_below (zQ_ a7) hb);replace a8:=zR a8 hb;replace HB:=A0_ (bT (zBw HB) hb);have af:=A0_ (hbox);have ey:=A0_ ((by rw [hg];exact(keep_size (w:=w) (g:=g) (row:=none) (zKp HK)):w.heap.size≤ak));have aY:=A0_ ((Nat.le_trans HW0.out (by rw [hg];exact(keep_size (w:=w) (g:=g) (row:=none) (zKp HK)):w.heap.size≤ak):w0.heap.size≤ak));replace HK:=A0_ (KeepBut.trans (zKp HK) (KeepBut.of_below hb g none) (.inl rfl));have an:=zL hg ag;have al:=zM hg ag;replace ag:=zK ag hb;have aw:=A0_ ((by rw [hg];exact Nat.ne_of_lt (IsS82.lt (show IsS82 w0 _ g s0_0 bg from zIs HI0)):g≠ak));have ax:=A0_ ((by rw [hg];exact Nat.ne_of_gt (IsS82.lt (show IsS82 w0 _ g s0_0 bg from zIs HI0)):ak≠g));replace HI0:=A0_ (IsS82.below (zIs HI0) hb);clear hb hbox hg;obtain⟨aT,aU,du,_⟩:=Kd.Q_slice a7.out;subst du;have ez:=al.out;have eA:=an.out;have eB:=ax.out;have eC:=aw.out;have bk:=zc0 af;have bl:=zc1 af;have bm:=kF af.out 0;have bn:=kF af.out 1;obtain⟨aW,aX,dv⟩:=rS a8.out;subst dv))
 (try simp only [Act.put,List.setIfInBounds_toArray,List.set_cons_zero,List.set_cons_succ])
 go_cut [22] (fun v22 wc => ∃ (kq:Nat) (bw:Bool) (aI:Int),v22 = .bool bw∧Aside0 (s1i_.j0 kq (wrap64 (1+aQ)) bw s0_0 aI aG aH=some (r1,r2,r3,r4,r5))∧Aside0 (kq≤k)∧Aside0 (Kd.Q (Kd.int .i64) 3 wc w.heap.size (fun k_=>some k_≠((.slice aW aH.length aX):Value).ownBlock) (.slice aT aG.length aU) aG)∧Aside0 (Kd.R (Kd.int .i64) 3 wc w.heap.size (fun k_=>some k_≠((.slice aT aG.length aU):Value).ownBlock) (.slice aW aH.length aX) aH)∧Aside0 (wc.heap[ah]? = some (.cells #[(.slice none 0 0),(.slice none 0 0)] 25 (0,0)))∧Aside0 (wc.heap[ak]? = some (.cells #[(.slice aT aG.length aU),(.slice aW aH.length aX)] 25 (0,0)))∧Aside0 (IsS82 w0 wc g s0_0 aI)∧Aside0 (KeepBut w wc g none)∧Aside0 (Below w0.heap.size w0 wc))
 case first =>
  have H:=cF.out;clear cF
  by_cases bG:(wrap64 (1+aQ))=1
  ·rw [if_pos bG] at H
   have bj:((wrap64 (1+aQ)) == 1)=true:=beq_iff_eq.mpr bG
   have cW:((wrap64 (1+aQ)) != 1)=false:=bne_eq_false_iff_eq.mpr bG
   clear bG
   (first|rw [bj]|(simp only [i64_w,i32_w];rw [bj])|skip)
   obtain⟨⟨cG,cH⟩,eq,H⟩:=zbind H;dsimp only at H;have H':=A0_ H;clear H
   go_wp2_with (first|(go_at_call 74;(with_reducible refine(s1a_.calls k g s0_0 bg 2 cG cH w0 _ ?ay ?az eq.out).mono ?_);(case ay=>repeat(first|(with_reducible first|exact HI0.out|apply IsS82.alloc|apply IsS82.drewN|apply IsS82.drew|apply IsS82.set_1|refine IsS82.far ?_ aD.out _|refine IsS82.far ?_ aw.out _)|exact HI0.out));(case az=>repeat(first|(with_reducible first|exact HB.out|apply bA|apply bN|apply bD|refine bS ?_ (IsS82.ge HI0.out)|refine bS ?_ aK.out|refine bS ?_ aY.out)|exact HB.out));rintro e w17 ⟨rfl,hi,hb,hk⟩;replace ag:=A0_ (KeepBut.blk hk (g':=ah) (o := .cells #[.slice none 0 0,.slice none 0 0] 25 (0,0)) (by refine zbf ?_ _ (hp:=by exact an.out);refine zbf ?_ _ (hp:=by exact an.out);exact zK_ ag) aE.out (by simp));replace a7:=A0_ (Kd.Q_mono (Kd.Q_keep (IsS82.apartQ (show IsS82 w0 _ g s0_0 bg from zIs HI0) (by(with_reducible repeat(first|apply Kd.Q_alloc|apply Kd.Q_drewN|apply Kd.Q_drew));exact(Kd.Q_mono (Kd.Q_far (p:=⟨ak,1,none⟩) (Kd.Q_far (p:=⟨ak,0,none⟩) (Kd.Q_types a7.out af.out (by decide)) (fun _ hk=>hk.2) (.slice aT aG.length aU)) (fun _ hk=>hk.2) (.slice aW aH.length aX)) (fun _ h_=>h_.1))) (by decide)) hk (fun _ h=>h.2)) (fun _ h=>h.1));replace a8:=A0_ (rM (Kd.R_keep (IsS82.apart (show IsS82 w0 _ g s0_0 bg from zIs HI0) (zF a8 af (.slice aT aG.length aU) (.slice aW aH.length aX) 0 1) (by decide)) hk (fun _ h=>h.2)) (fun _ h=>h.1));replace af:=A0_ (KeepBut.blk hk (g':=ak) (o := .cells #[.slice aT aG.length aU,.slice aW aH.length aX] 25 (0,0)) (by refine zbp (cs := #[.slice aT aG.length aU,.slice none 0 0]) ?_ 1 _ rfl;refine zbp (cs := #[.slice none 0 0,.slice none 0 0]) ?_ 0 _ rfl;exact zK_ af) ax.out (by simp));replace HK:=A0_ (KeepBut.trans (zKp HK) hk (.inl rfl));replace HB:=A0_ (hb);replace HI0:=A0_ (hi);(try clear hb)))
   go_meet
   case rel=>exact⟨_,((cG == 0)),(cH),zt,H',zo,⟨zQ_ a7⟩,⟨zR_ a8⟩,⟨zK_ ag⟩,⟨zK_ af⟩,⟨zIs HI0⟩,⟨zKp HK⟩,⟨zBw HB⟩⟩
  rw [if_neg bG] at H
  have bj:((wrap64 (1+aQ)) == 1)=false:=beq_eq_false_iff_ne.mpr bG
  have cW:((wrap64 (1+aQ)) != 1)=true:=bne_iff_ne.mpr bG
  (first|rw [bj]|(simp only [i64_w,i32_w];rw [bj])|skip)
  have H':=A0_ H;clear H
  go_wp2
  go_meet
  case rel=>exact⟨_,(false),(bg),zt,H',zo,⟨by(with_reducible repeat(first|apply Kd.Q_alloc|apply Kd.Q_drewN|apply Kd.Q_drew));exact Kd.Q_mono (Kd.Q_far (p:=⟨ak,1,none⟩) (Kd.Q_far (p:=⟨ak,0,none⟩) (Kd.Q_types a7.out af.out (by decide)) (fun _ hk=>hk.2) (.slice aT aG.length aU)) (fun _ hk=>hk.2) (.slice aW aH.length aX)) (fun _ hk=>hk.1)⟩,⟨zF a8 af (.slice aT aG.length aU) (.slice aW aH.length aX) 0 1⟩,⟨by refine zbf ?_ _ (hp:=by exact an.out);refine zbf ?_ _ (hp:=by exact an.out);exact zK_ ag⟩,⟨by refine zbp (cs := #[.slice aT aG.length aU,.slice none 0 0]) ?_ 1 _ rfl;refine zbp (cs := #[.slice none 0 0,.slice none 0 0]) ?_ 0 _ rfl;exact zK_ af⟩,⟨zIs HI0⟩,⟨zKp HK⟩,⟨zBw HB⟩⟩
 case rest =>
  clear cF;(try clear c3);(try clear ca);(try clear cb);(try clear bk);(try clear bl);(try clear bm);(try clear bn);obtain⟨kq,bw,aI,rfl,HA,cn,ae,ac,ag,af,HI0,HK,HB⟩:=hcut
  cases kq with
  | zero=>exact absurd HA.out (by simp [s1i_.j0])
  | succ bH =>
   have H:=HA.out;clear HA;simp only [s1i_.j0] at H;have cc:=A0_ H;clear H
   go_upto_if 22 with(fail)
   go_cut [5] (fun v5 wc => ∃ (kq:Nat) (av:Int) (a4:Int) (ab:List Int) (aa:List Int) (u346000:Value) (u346001:Value),v5 = .int .i64 av∧Aside0 (s1i_.j1 kq av s0_0 a4 ab aa=some (r1,r2,r3,r4,r5))∧Aside0 (kq≤bH)∧Aside0 (Kd.Q (Kd.int .i64) 3 wc w.heap.size (fun k_=>nO k_ u346001) u346000 ab)∧Aside0 (Kd.R (Kd.int .i64) 3 wc w.heap.size (fun k_=>nO k_ u346000) u346001 aa)∧Aside0 (wc.heap[ah]? = some (.cells #[(.slice none 0 0),(.slice none 0 0)] 25 (0,0)))∧Aside0 (wc.heap[ak]? = some (.cells #[u346000,u346001] 25 (0,0)))∧Aside0 (IsS82 w0 wc g s0_0 a4)∧Aside0 (KeepBut w wc g none)∧Aside0 (Below w0.heap.size w0 wc))
   case first =>
    have H:=cc.out;clear cc
    by_cases co:bw=true
    ·subst co
     have H1:((s1f_.f bH s0_0 aI 1).bind fun b3=>((s1a_.f bH s0_0 b3.2.2 6).bind fun cp=>(s1i_.j1 bH (wrap64 (1+cp.1)) s0_0 cp.2 b3.1 b3.2.1)))=some (r1,r2,r3,r4,r5):=by rw [if_pos rfl] at H;exact H
     clear H;have H:=H1;clear H1;obtain⟨⟨a9,ba,bo⟩,er,H⟩:=zbind H;dsimp only at H;obtain⟨⟨cI,cJ⟩,es,H⟩:=zbind H;dsimp only at H;have H':=A0_ H;clear H
     go_wp2_with (first|((with_reducible refine gC (f:=75) rfl ?_);refine zJ (some 24) Try.func75 #[.pointer (some ⟨g,0,none⟩),.int .i64 1] ?_;(with_reducible refine(s1f_.calls bH g s0_0 aI 1 a9 ba bo w0 _ ?ay ?az er.out).mono ?_);(case ay=>repeat(first|(with_reducible first|exact HI0.out|apply IsS82.alloc|apply IsS82.drewN|apply IsS82.drew|apply IsS82.set_1|refine IsS82.far ?_ aD.out _|refine IsS82.far ?_ aw.out _)|exact HI0.out));(case az=>repeat(first|(with_reducible first|exact HB.out|apply bA|apply bN|apply bD|refine bS ?_ (IsS82.ge HI0.out)|refine bS ?_ aK.out|refine bS ?_ aY.out)|exact HB.out));rintro e w22 ⟨fa,fb,rfl,aM,bF,hi,hb,hk⟩;refine⟨_,rfl,?_⟩;replace ag:=A0_ (KeepBut.blk hk (g':=ah) (o := .cells #[.slice none 0 0,.slice none 0 0] 25 (0,0)) (zK_ ag) aE.out (by simp));replace af:=A0_ (KeepBut.blk hk (g':=ak) (o := .cells #[.slice aT aG.length aU,.slice aW aH.length aX] 25 (0,0)) (zK_ af) ax.out (by simp));have bx:=A0_ (Kd.Q_lower (Kd.Q_new' (Kd.Q_new' aM (Kd.Q_lt (zQ_ ae))) (rX (zR_ ac))) (keep_size (w:=w) (g:=g) (row:=none) (zKp HK)));have bz:=A0_ (rL (Kd.R_new' (Kd.R_new' bF (Kd.Q_lt (zQ_ ae))) (rX (zR_ ac))) (keep_size (w:=w) (g:=g) (row:=none) (zKp HK)));replace ae:=A0_ (Kd.Q_mono (Kd.Q_told (Kd.Q_told (Kd.Q_oldK (IsS82.apartQ (show IsS82 w0 _ g s0_0 aI from zIs HI0) (zQ_ ae) (by decide)) hk) (Kd.Q_base aM)) (Kd.R_base bF)) (fun _ h_=>h_.1));replace ac:=A0_ (rM (rT (rT (Kd.R_oldK (IsS82.apart (show IsS82 w0 _ g s0_0 aI from zIs HI0) (zR_ ac) (by decide)) hk) (Kd.Q_base aM)) (Kd.R_base bF)) (fun _ h_=>h_.1));replace HK:=A0_ (KeepBut.trans (zKp HK) hk (.inl rfl));replace HB:=A0_ (hb);replace HI0:=A0_ (hi);(try clear hb);(try clear aM);(try clear bF);obtain⟨bh,bi,dw,_⟩:=Kd.Q_slice bx.out;subst dw;have eD:=al.out;have eE:=an.out;have eF:=ax.out;have eG:=aw.out;have dN:=zc0 af;have dO:=zc1 af;have dP:=kF af.out 0;have dQ:=kF af.out 1;obtain⟨bp,bq,dx⟩:=rS bz.out;subst dx)|((with_reducible refine gC (f:=74) rfl ?_);refine zJ (some 26) Try.func74 #[.pointer (some ⟨g,0,none⟩),.int .i64 6] ?_;(with_reducible refine(s1a_.calls bH g s0_0 bo 6 cI cJ w0 _ ?ay ?az es.out).mono ?_);(case ay=>repeat(first|(with_reducible first|exact HI0.out|apply IsS82.alloc|apply IsS82.drewN|apply IsS82.drew|apply IsS82.set_1|refine IsS82.far ?_ aD.out _|refine IsS82.far ?_ aw.out _)|exact HI0.out));(case az=>repeat(first|(with_reducible first|exact HB.out|apply bA|apply bN|apply bD|refine bS ?_ (IsS82.ge HI0.out)|refine bS ?_ aK.out|refine bS ?_ aY.out)|exact HB.out));rintro e w28 ⟨rfl,hi,hb,hk⟩;refine⟨_,rfl,?_⟩;replace ae:=A0_ (Kd.Q_mono (Kd.Q_keep (IsS82.apartQ (show IsS82 w0 _ g s0_0 bo from zIs HI0) (by(with_reducible repeat(first|apply Kd.Q_alloc|apply Kd.Q_drewN|apply Kd.Q_drew));exact(Kd.Q_mono (Kd.Q_far (p:=⟨ak,1,none⟩) (Kd.Q_far (p:=⟨ak,0,none⟩) (Kd.Q_types ae.out af.out (by decide)) (fun _ hk=>hk.2) (.slice bh a9.length bi)) (fun _ hk=>hk.2) (.slice bp ba.length bq)) (fun _ h_=>h_.1))) (by decide)) hk (fun _ h=>h.2)) (fun _ h=>h.1));replace ac:=A0_ (rM (Kd.R_keep (IsS82.apart (show IsS82 w0 _ g s0_0 bo from zIs HI0) (zF ac af (.slice bh a9.length bi) (.slice bp ba.length bq) 0 1) (by decide)) hk (fun _ h=>h.2)) (fun _ h=>h.1));replace ag:=A0_ (KeepBut.blk hk (g':=ah) (o := .cells #[.slice none 0 0,.slice none 0 0] 25 (0,0)) (by refine zbf ?_ _ (hp:=by exact an.out);refine zbf ?_ _ (hp:=by exact an.out);exact zK_ ag) aE.out (by simp));replace bx:=A0_ (Kd.Q_mono (Kd.Q_keep (IsS82.apartQ (show IsS82 w0 _ g s0_0 bo from zIs HI0) (by(with_reducible repeat(first|apply Kd.Q_alloc|apply Kd.Q_drewN|apply Kd.Q_drew));exact(Kd.Q_mono (Kd.Q_far (p:=⟨ak,1,none⟩) (Kd.Q_far (p:=⟨ak,0,none⟩) (Kd.Q_types bx.out af.out (by decide)) (fun _ hk=>hk.2) (.slice bh a9.length bi)) (fun _ hk=>hk.2) (.slice bp ba.length bq)) (fun _ h_=>h_.1))) (by decide)) hk (fun _ h=>h.2)) (fun _ h=>h.1));replace bz:=A0_ (rM (Kd.R_keep (IsS82.apart (show IsS82 w0 _ g s0_0 bo from zIs HI0) (zF bz af (.slice bh a9.length bi) (.slice bp ba.length bq) 0 1) (by decide)) hk (fun _ h=>h.2)) (fun _ h=>h.1));replace af:=A0_ (KeepBut.blk hk (g':=ak) (o := .cells #[.slice bh a9.length bi,.slice bp ba.length bq] 25 (0,0)) (by refine zbp (cs := #[.slice bh a9.length bi,.slice aW aH.length aX]) ?_ 1 _ rfl;refine zbp (cs := #[.slice aT aG.length aU,.slice aW aH.length aX]) ?_ 0 _ rfl;exact zK_ af) ax.out (by simp));replace HK:=A0_ (KeepBut.trans (zKp HK) hk (.inl rfl));replace HB:=A0_ (hb);replace HI0:=A0_ (hi);(try clear hb)))
     go_meet
     case rel=>exact⟨_,(wrap64 (1+cI)),(cJ),(a9),(ba),(.slice bh a9.length bi),(.slice bp ba.length bq),zt,H',⟨by have:=cn.out;first|omega|exact Nat.le_refl _⟩,⟨zmQ bx (fun _ hk=>hk.1.1)⟩,⟨zmR bz (fun _ hk=>hk.1.1)⟩,⟨zK_ ag⟩,⟨zK_ af⟩,⟨zIs HI0⟩,⟨zKp HK⟩,⟨zBw HB⟩⟩
    replace co:=Bool.eq_false_iff.mpr co;subst co
    have H1:(s1i_.j1 bH (wrap64 (1+aQ)) s0_0 aI aG aH)=some (r1,r2,r3,r4,r5):=by rw [if_neg (show ¬ (false=true) by decide)] at H;exact H
    clear H;have H:=H1;clear H1;have H':=A0_ H;clear H
    go_wp2
    go_meet
    case rel=>exact⟨_,((wrap64 (1+aQ))),(aI),(aG),(aH),(.slice aT aG.length aU),(.slice aW aH.length aX),zt,H',⟨by have:=cn.out;first|omega|exact Nat.le_refl _⟩,⟨zQ_ ae⟩,⟨zR_ ac⟩,⟨zK_ ag⟩,⟨zK_ af⟩,⟨zIs HI0⟩,⟨zKp HK⟩,⟨zBw HB⟩⟩
   case rest =>
    clear cc;(try clear c3);(try clear ca);(try clear cb);(try clear bk);(try clear bl);(try clear bm);(try clear bn);obtain⟨kq,av,a4,ab,aa,u346000,u346001,rfl,HA,cK,ae,ac,ag,af,HI0,HK,HB⟩:=hcut
    cases kq with
    | zero=>exact absurd HA.out (by simp [s1i_.j1])
    | succ cd =>
     have H:=HA.out;clear HA;simp only [s1i_.j1] at H
     obtain⟨cL,b4⟩ : ∃ y_:List (List Int),y_=(([]:List (List Int))):=⟨_,rfl⟩
     replace H:(s1i_.l0 cd av cL 0 s0_0 a4 ab aa)=some (r1,r2,r3,r4,r5):=zH b4 H
     have cq:=A0_ b4;clear b4;have H':=A0_ H;clear H
     go_wp2_with (first|((with_reducible refine gD (N:=28) rfl ?_);refine Kd.S_lit (Kd.slice 3 (Kd.int .i64)) _ 23 ?hg (N:=28) ?hd (xs:=([]:List (List Int))) (inner := []) (ok:=fun _=>True) (okp:=fun _=>True) ?hr ?hp (fun _ hk=>hk) trivial (Below.refl _ _) (Nat.le_refl _) (by simp) ?_;(case hd=>rfl);(case hg=>rfl);(case hr=>first|(go_simp;done)|(go_simp;rfl));(case hp=>exact(Reps.none _ _));intro fc w29 bI hb hg_ hnew_;clear hg_ hnew_;(first|rw [← cq.out] at bI|(simp only [Int.reduceToNat] at bI;rw [← cq.out] at bI));have cX:=A0_ (Kd.S_lower (Kd.S_new' (Kd.S_new' bI (Kd.Q_lt (zQ_ ae))) (rX (zR_ ac))) (keep_size (w:=w) (g:=g) (row:=none) (zKp HK)));replace ae:=A0_ (Kd.Q_below (zQ_ ae) hb);replace ac:=zR ac hb;replace ag:=zK ag hb;replace af:=zK af hb;replace HK:=A0_ (KeepBut.trans (zKp HK) (KeepBut.of_below hb g none) (.inl rfl));replace HB:=A0_ (bT (zBw HB) hb);replace HI0:=A0_ (IsS82.below (zIs HI0) hb);clear hb bI))
     go_loopg [7,8] cd (fun kq v7 v8 w' => ∃ (aA:List (List Int)) (br:Int) (aq:Int),v8 = .int .i64 br∧Aside0 (s1i_.l0 kq av aA br s0_0 aq ab aa=some (r1,r2,r3,r4,r5))∧Aside0 (kq≤cd)∧Aside0 (Kd.S (Kd.slice 3 (Kd.int .i64)) 23 w' w.heap.size (fun k_=>nO k_ u346000∧nO k_ u346001) v7 aA)∧Aside0 (Kd.Q (Kd.int .i64) 3 w' w.heap.size (fun k_=>nO k_ u346001) u346000 ab)∧Aside0 (Kd.R (Kd.int .i64) 3 w' w.heap.size (fun k_=>nO k_ u346000) u346001 aa)∧Aside0 (w'.heap[ah]? = some (.cells #[(.slice none 0 0),(.slice none 0 0)] 25 (0,0)))∧Aside0 (w'.heap[ak]? = some (.cells #[u346000,u346001] 25 (0,0)))∧Aside0 (IsS82 w0 w' g s0_0 aq)∧Aside0 (KeepBut w w' g none)∧Aside0 (Below w0.heap.size w0 w'))
     case atStart=>exact⟨(cL),(0),(a4),zt,H',⟨Nat.le_refl _⟩,⟨zmS cX (fun _ hk=>⟨hk.1.2,hk.2⟩)⟩,⟨zQ_ ae⟩,⟨zR_ ac⟩,⟨zK_ ag⟩,⟨zK_ af⟩,⟨zIs HI0⟩,⟨zKp HK⟩,⟨zBw HB⟩⟩
     case round =>
      clear H';(try clear c3);(try clear ca);(try clear cb);(try clear bk);(try clear bl);(try clear bm);(try clear bn);obtain⟨aA,br,aq,rfl,HA,dm,am,ae,ac,ag,af,HI0,HK,HB⟩:=hrel
      cases gk with
      | zero=>exact absurd HA.out (by simp [s1i_.l0])
      | succ k3 =>
       have H:=HA.out;clear HA;simp only [s1i_.l0] at H
       by_cases bY:br<(wrap64 ((aa.length:Int) / 2))
       ·rw [if_pos bY] at H
        have cY:=dT bY;clear bY;obtain⟨⟨bJ,ce⟩,et,H⟩:=zbind H;dsimp only at H
        have dn:=zpc H;replace H:=zph H
        have cZ:=A0_ dn;clear dn
        obtain⟨cM,b5⟩ : ∃ y_:List (List Int),y_=(aA ++ [bJ]):=⟨_,rfl⟩
        replace H:(s1i_.l0 k3 av cM (wrap64 (br+1)) s0_0 ce ab aa)=some (r1,r2,r3,r4,r5):=zH b5 H
        have da:=A0_ b5;clear b5;have H':=A0_ H;clear H;have eH:=al.out;have eI:=an.out;have eJ:=ax.out;have eK:=aw.out;have dR:=zc0 af;have dS:=zc1 af;have dU:=kF af.out 0;have dV:=kF af.out 1;obtain⟨bK,bL,dy⟩:=rS ac.out;subst dy
        go_wp2_with (first|((with_reducible refine gC (f:=87) rfl ?_);refine zJ (some 40) Try.func87 #[.pointer (some ⟨g,0,none⟩),.int .i64 av] ?_;(with_reducible refine(s1g_.calls k3 g s0_0 aq av bJ ce w0 _ ?ay ?az et.out).mono ?_);(case ay=>repeat(first|(with_reducible first|exact HI0.out|apply IsS82.alloc|apply IsS82.drewN|apply IsS82.drew|apply IsS82.set_1|refine IsS82.far ?_ aD.out _|refine IsS82.far ?_ aw.out _)|exact HI0.out));(case az=>repeat(first|(with_reducible first|exact HB.out|apply bA|apply bN|apply bD|refine bS ?_ (IsS82.ge HI0.out)|refine bS ?_ aK.out|refine bS ?_ aY.out)|exact HB.out));rintro e w38 ⟨fd,rfl,aM,hi,hb,hk⟩;refine⟨_,rfl,?_⟩;replace am:=A0_ (sM (Kd.S_told (Kd.S_oldK (IsS82.apartS (show IsS82 w0 _ g s0_0 aq from zIs HI0) (zS_ am) (by decide)) hk) (Kd.R_base aM)) (fun _ h_=>h_.1));replace ag:=A0_ (KeepBut.blk hk (g':=ah) (o := .cells #[.slice none 0 0,.slice none 0 0] 25 (0,0)) (zK_ ag) aE.out (by simp));replace af:=A0_ (KeepBut.blk hk (g':=ak) (o := .cells #[u346000,.slice bK aa.length bL] 25 (0,0)) (zK_ af) ax.out (by simp));have bB:=A0_ (rL (Kd.R_new' (Kd.R_new' aM (Kd.Q_lt (zQ_ ae))) (rX (zR_ ac))) (keep_size (w:=w) (g:=g) (row:=none) (zKp HK)));replace ae:=A0_ (Kd.Q_mono (Kd.Q_told (Kd.Q_oldK (IsS82.apartQ (show IsS82 w0 _ g s0_0 aq from zIs HI0) (zQ_ ae) (by decide)) hk) (Kd.R_base aM)) (fun _ h_=>h_.1));replace ac:=A0_ (rM (rT (Kd.R_oldK (IsS82.apart (show IsS82 w0 _ g s0_0 aq from zIs HI0) (zR_ ac) (by decide)) hk) (Kd.R_base aM)) (fun _ h_=>h_.1));replace HK:=A0_ (KeepBut.trans (zKp HK) hk (.inl rfl));replace HB:=A0_ (hb);replace HI0:=A0_ (hi);(try clear hb);(try clear aM);obtain⟨cO,cP,dz⟩:=rS bB.out;subst dz)|((with_reducible refine gB (b := .append) (xs := #[.tmp 37,.tmp 41]) rfl ?_);at_builtin;refine Kd.S_append (Kd.slice 3 (Kd.int .i64)) w.heap.size rfl (.tmp 37) (.tmp 41) 26 23 (.slice none 0 0) 24 rfl Try.underlying26 info23 rfl (by decide) (by omega) u7 aA bJ [.slice cO bJ.length cP] (fun k_=>nO k_ u346000∧nL k_ bK aa bL) (fun k_=>some k_=(.slice cO bJ.length cP:Value).ownBlock) rfl rfl ?aP (fun k_ hk_=>((rM (ok':=fun k_=>((fun k_=>nO k_ u346000∧nL k_ bK aa bL)) k_∧nO k_ u7) (Kd.R_apart' (bB.out) (Kd.S_typed am.out) (by decide)) (fun k_ hk=>⟨⟨hk.1.1.2,hk.1.2⟩,hk.2⟩))).1 k_ hk_.symm) ?aF ?aO (Below.refl _ _) ?aS ?aL ?_;(case aP=>exact Kd.M_row (rM (Kd.R_tight rfl (rM (ok':=fun k_=>((fun k_=>nO k_ u346000∧nL k_ bK aa bL)) k_∧nO k_ u7) (Kd.R_apart' (bB.out) (Kd.S_typed am.out) (by decide)) (fun k_ hk=>⟨⟨hk.1.1.2,hk.1.2⟩,hk.2⟩))) (fun _ h_=>h_)));(case aF=>exact(fun k_ hk=>⟨Kd.fresh' (Kd.Q_lt (zQ_ ae)) k_ hk,Kd.fresh' (rX (zR_ ac)) k_ hk⟩));(case aO=>exact(zmS am (fun k_ hk=>⟨⟨hk.1.1,hk.1.2⟩,fun e_=>hk.2 e_⟩)));(case aS=>exact(keep_size (w:=w) (g:=g) (row:=none) (zKp HK)));(case aL=>have:=cZ.out;omega);intro fe w39 ho hb hg hat;rw [← da.out] at ho;replace ae:=A0_ (Kd.Q_over' (zQ_ ae) (Kd.S_typed (zS_ am)) (by decide) hg);replace ac:=A0_ (Kd.R_over' (zR_ ac) (Kd.S_typed (zS_ am)) (by decide) hg);replace ag:=A0_ (blk_grown (g:=ah) (o := .cells #[.slice none 0 0,.slice none 0 0] 25 (0,0)) (zK_ ag) hg (Kd.S_ne am.out ag.out (by decide)));replace af:=A0_ (blk_grown (g:=ak) (o := .cells #[u346000,.slice bK aa.length bL] 25 (0,0)) (zK_ af) hg (Kd.S_ne am.out af.out (by decide)));replace HB:=A0_ (below_weaken (zBw HB) HL.out hb);replace HI0:=A0_ (IsS82.grown (zIs HI0) hg (IsS82.own_neS HI0.out am.out (by decide)));replace HK:=A0_ (KeepBut.trans (zKp HK) (KeepBut.of_grown hg g) (Kd.S_base2 am.out));have db:=A0_ (ho);clear am bB ho hb hg hat))
        go_roundg k3
        case measure=>have:=cn.out;have:=cK.out;have:=dm.out;omega
        case rel=>exact⟨(cM),(wrap64 (br+1)),(ce),zt,H',⟨by have:=cn.out;have:=cK.out;have:=dm.out;omega⟩,⟨zS_ db⟩,⟨zmQ ae (fun _ hk=>hk.1)⟩,⟨zmR ac (fun _ hk=>hk.1)⟩,⟨zK_ ag⟩,⟨zK_ af⟩,⟨zIs HI0⟩,⟨zKp HK⟩,⟨zBw HB⟩⟩
       rw [if_neg bY] at H;have cY:=dF bY;clear bY;obtain⟨⟨aV,aJ⟩,cQ,H⟩:=zbind H;dsimp only at H
       by_cases bM:aV=0
       ·rw [if_pos bM] at H
        have dc:(aV == 0)=true:=beq_iff_eq.mpr bM
        have dd:(aV != 0)=false:=bne_eq_false_iff_eq.mpr bM
        clear bM
        obtain⟨ap,b6⟩ : ∃ y_:List Int,y_=(([0,7,wrap64 (av+1)]:List Int)):=⟨_,rfl⟩
        replace H:((s1a_.f k3 s0_0 aJ 3).bind fun bC=>(if 0≤bC.1 then (if bC.1<(ap.length:Int) then (some (ab,aa,rd ap bC.1,aA,bC.2)) else (none)) else (none)))=some (r1,r2,r3,r4,r5):=zH b6 H
        have aZ:=A0_ b6;clear b6;obtain⟨⟨aC,aN⟩,dp,H⟩:=zbind H;dsimp only at H
        have dq:=zpc H;replace H:=zph H
        have eL:=dT dq;clear dq
        have dr:=zpc H;replace H:=zph H
        have eM:=dT dr;clear dr;simp only [Option.some.injEq,Prod.mk.injEq] at H;obtain⟨rfl,rfl,rfl,rfl,rfl⟩:=H;have eN:=al.out;have eO:=an.out;have eP:=ax.out;have eQ:=aw.out;have dW:=zc0 af;have dX:=zc1 af;have dY:=kF af.out 0;have dZ:=kF af.out 1;obtain⟨ai,aj,dA⟩:=rS ac.out;subst dA
        try go_wp2_with (first|((with_reducible refine gC (f:=74) rfl ?_);refine zJ (some 44) Try.func74 #[.pointer (some ⟨g,0,none⟩),.int .i64 40] ?_;(with_reducible refine(s1a_.calls k3 g s0_0 aq 40 aV aJ w0 _ ?ay ?az cQ.out).mono ?_);(case ay=>repeat(first|(with_reducible first|exact HI0.out|apply IsS82.alloc|apply IsS82.drewN|apply IsS82.drew|apply IsS82.set_1|refine IsS82.far ?_ aD.out _|refine IsS82.far ?_ aw.out _)|exact HI0.out));(case az=>repeat(first|(with_reducible first|exact HB.out|apply bA|apply bN|apply bD|refine bS ?_ (IsS82.ge HI0.out)|refine bS ?_ aK.out|refine bS ?_ aY.out)|exact HB.out));rintro e w50 ⟨rfl,hi,hb,hk⟩;refine⟨_,rfl,?_⟩;replace am:=A0_ (sM (Kd.S_keep (IsS82.apartS (show IsS82 w0 _ g s0_0 aq from zIs HI0) (zS_ am) (by decide)) hk (fun _ h=>h.2)) (fun _ h=>h.1));replace ae:=A0_ (Kd.Q_mono (Kd.Q_keep (IsS82.apartQ (show IsS82 w0 _ g s0_0 aq from zIs HI0) (zQ_ ae) (by decide)) hk (fun _ h=>h.2)) (fun _ h=>h.1));replace ac:=A0_ (rM (Kd.R_keep (IsS82.apart (show IsS82 w0 _ g s0_0 aq from zIs HI0) (zR_ ac) (by decide)) hk (fun _ h=>h.2)) (fun _ h=>h.1));replace ag:=A0_ (KeepBut.blk hk (g':=ah) (o := .cells #[.slice none 0 0,.slice none 0 0] 25 (0,0)) (zK_ ag) aE.out (by simp));replace af:=A0_ (KeepBut.blk hk (g':=ak) (o := .cells #[u346000,.slice ai aa.length aj] 25 (0,0)) (zK_ af) ax.out (by simp));replace HK:=A0_ (KeepBut.trans (zKp HK) hk (.inl rfl));replace HB:=A0_ (hb);replace HI0:=A0_ (hi);(try clear hb)))
        have pi374:(0≤(aC:Int))=True:=eq_true (zd)
        have qi374:(aC<(ap.length:Int))=True:=eq_true (zd)
        replace am:=A0_ (sD am.out)
        replace ae:=A0_ (Kd.Q_drew ae.out)
        replace ac:=A0_ (rD ac.out)
        replace ag:=A0_ (kD ag.out)
        replace af:=A0_ (kD af.out)
        replace HI0:=A0_ (IsS82.drew HI0.out)
        replace HK:=A0_ (keep_drew HK.out)
        replace HB:=A0_ (bD HB.out)
        obtain⟨Aq_,cq_,eq_,_⟩:=Kd.Q_slice ae.out
        subst eq_
        refine start_ (n:=12) (S:=fun w'=>w'.cell? ⟨ak,0,none⟩=some (.slice Aq_ ab.length cq_)∧w'.cell? ⟨ak,1,none⟩=some (.slice ai aa.length aj)) (ds := []) (bs 12 0) (by kernel_rfl) rfl rfl ⟨(kC af.out 0).trans rfl,(kC af.out 1).trans rfl⟩ (fun hHeld => ?_);refine with_tabW s1i_.tab13 s1i_.bits13 (fun HT_ HW_ => ?_)
        generalize w50.drew=w51 at am ae ac ag af HI0 HK HB hHeld ⊢
        refine zP 1 (some 48) (bs 12 2) ?_
        refine zP 2 (some 49) (bs 12 6) ?_
        refine zP 4 (some 51) (bs 12 22) ?_
        refine zP 8 (some 55) (bs 12 278) ?_
        refine zT 0 (some 47) (bs 12 279) hHeld ?_
        refine join_ (σ:=Value×Addr) 2 (bs 12 1023) (fun s_ => [(50,s_.1),(52,.int .i64 aC),(54,.int .i64 (rd ap aC)),(53,.pointer (some (s_.2.add (aC).toNat)))]) (fun s_ w'=>(w'.cell? ⟨ak,0,none⟩=some (.slice Aq_ ab.length cq_)∧w'.cell? ⟨ak,1,none⟩=some (.slice ai aa.length aj))∧(Kd.R (Kd.int .i64) 3 w' w.heap.size (fun k_=>nL k_ Aq_ ab cq_∧nL k_ ai aa aj) s_.1 ap)∧(Kd.Q (Kd.int .i64) 3 w' w.heap.size (fun k_=>some k_≠(s_.1:Value).ownBlock∧nL k_ ai aa aj) (.slice Aq_ ab.length cq_) ab)∧(Kd.R (Kd.int .i64) 3 w' w.heap.size (fun k_=>some k_≠(s_.1:Value).ownBlock∧nL k_ Aq_ ab cq_) (.slice ai aa.length aj) aa)∧(Kd.S (Kd.slice 3 (Kd.int .i64)) 23 w' w.heap.size (fun k_=>some k_≠(s_.1:Value).ownBlock∧nL k_ Aq_ ab cq_∧nL k_ ai aa aj) u7 aA)∧(∃ c_,(s_.1:Value) = .slice (some s_.2) ap.length c_)∧(w'.heap[ah]? = some (.cells #[.slice Aq_ ab.length cq_,.slice ai aa.length aj] 25 (0,0)))∧(w'.heap[ak]? = some (.cells #[.slice Aq_ ab.length cq_,.slice ai aa.length aj] 25 (0,0)))∧(IsS82 w0 w' g s0_0 aN)∧(KeepBut w w' g none)∧(Below w0.heap.size w0 w')) ?_ ?_
        rotate_left
        ·intro bv
         refine join_ (σ:=Value×Addr) 3 (bs 12 511) (fun s_ => [(50,s_.1),(52,.int .i64 aC),(54,.int .i64 (rd ap aC)),(53,.pointer (some (s_.2.add (aC).toNat)))]) (fun s_ w'=>(w'.cell? ⟨ak,0,none⟩=some (.slice Aq_ ab.length cq_)∧w'.cell? ⟨ak,1,none⟩=some (.slice ai aa.length aj))∧(Kd.R (Kd.int .i64) 3 w' w.heap.size (fun k_=>nL k_ Aq_ ab cq_∧nL k_ ai aa aj) s_.1 ap)∧(Kd.Q (Kd.int .i64) 3 w' w.heap.size (fun k_=>some k_≠(s_.1:Value).ownBlock∧nL k_ ai aa aj) (.slice Aq_ ab.length cq_) ab)∧(Kd.R (Kd.int .i64) 3 w' w.heap.size (fun k_=>some k_≠(s_.1:Value).ownBlock∧nL k_ Aq_ ab cq_) (.slice ai aa.length aj) aa)∧(Kd.S (Kd.slice 3 (Kd.int .i64)) 23 w' w.heap.size (fun k_=>some k_≠(s_.1:Value).ownBlock∧nL k_ Aq_ ab cq_∧nL k_ ai aa aj) u7 aA)∧(∃ c_,(s_.1:Value) = .slice (some s_.2) ap.length c_)∧(w'.heap[ah]? = some (.cells #[.slice none 0 0,.slice none 0 0] 25 (0,0)))∧(w'.heap[ak]? = some (.cells #[.slice Aq_ ab.length cq_,.slice ai aa.length aj] 25 (0,0)))∧(IsS82 w0 w' g s0_0 aN)∧(KeepBut w w' g none)∧(Below w0.heap.size w0 w')) ?_ ?_
         rotate_left
         ·intro cw
          refine join_ (σ:=Value×Addr) 3 (bs 12 895) (fun s_ => [(50,s_.1),(52,.int .i64 aC),(53,.pointer (some (s_.2.add (aC).toNat)))]) (fun s_ w'=>(w'.cell? ⟨ak,0,none⟩=some (.slice Aq_ ab.length cq_)∧w'.cell? ⟨ak,1,none⟩=some (.slice ai aa.length aj))∧(Kd.R (Kd.int .i64) 3 w' w.heap.size (fun k_=>nL k_ Aq_ ab cq_∧nL k_ ai aa aj) s_.1 ap)∧(Kd.Q (Kd.int .i64) 3 w' w.heap.size (fun k_=>some k_≠(s_.1:Value).ownBlock∧nL k_ ai aa aj) (.slice Aq_ ab.length cq_) ab)∧(Kd.R (Kd.int .i64) 3 w' w.heap.size (fun k_=>some k_≠(s_.1:Value).ownBlock∧nL k_ Aq_ ab cq_) (.slice ai aa.length aj) aa)∧(Kd.S (Kd.slice 3 (Kd.int .i64)) 23 w' w.heap.size (fun k_=>some k_≠(s_.1:Value).ownBlock∧nL k_ Aq_ ab cq_∧nL k_ ai aa aj) u7 aA)∧(∃ c_,(s_.1:Value) = .slice (some s_.2) ap.length c_)∧(w'.heap[ah]? = some (.cells #[.slice Aq_ ab.length cq_,.slice ai aa.length aj] 25 (0,0)))∧(w'.heap[ak]? = some (.cells #[.slice Aq_ ab.length cq_,.slice ai aa.length aj] 25 (0,0)))∧(IsS82 w0 w' g s0_0 aN)∧(KeepBut w w' g none)∧(Below w0.heap.size w0 w')) ?_ ?_
          rotate_left
          ·intro b2
           refine join_ (σ:=Value×Addr) 4 (bs 12 383) (fun s_ => [(50,s_.1),(52,.int .i64 aC),(53,.pointer (some (s_.2.add (aC).toNat)))]) (fun s_ w'=>(w'.cell? ⟨ak,0,none⟩=some (.slice Aq_ ab.length cq_)∧w'.cell? ⟨ak,1,none⟩=some (.slice ai aa.length aj))∧(Kd.R (Kd.int .i64) 3 w' w.heap.size (fun k_=>nL k_ Aq_ ab cq_∧nL k_ ai aa aj) s_.1 ap)∧(Kd.Q (Kd.int .i64) 3 w' w.heap.size (fun k_=>some k_≠(s_.1:Value).ownBlock∧nL k_ ai aa aj) (.slice Aq_ ab.length cq_) ab)∧(Kd.R (Kd.int .i64) 3 w' w.heap.size (fun k_=>some k_≠(s_.1:Value).ownBlock∧nL k_ Aq_ ab cq_) (.slice ai aa.length aj) aa)∧(Kd.S (Kd.slice 3 (Kd.int .i64)) 23 w' w.heap.size (fun k_=>some k_≠(s_.1:Value).ownBlock∧nL k_ Aq_ ab cq_∧nL k_ ai aa aj) u7 aA)∧(∃ c_,(s_.1:Value) = .slice (some s_.2) ap.length c_)∧(w'.heap[ah]? = some (.cells #[.slice none 0 0,.slice none 0 0] 25 (0,0)))∧(w'.heap[ak]? = some (.cells #[.slice Aq_ ab.length cq_,.slice ai aa.length aj] 25 (0,0)))∧(IsS82 w0 w' g s0_0 aN)∧(KeepBut w w' g none)∧(Below w0.heap.size w0 w')) ?_ ?_
           rotate_left
           ·intro cr
            refine join_ (σ:=Unit) 5 (bs 12 823) (fun s_ => [(52,.int .i64 aC)]) (fun s_ w'=>(w'.cell? ⟨ak,0,none⟩=some (.slice Aq_ ab.length cq_)∧w'.cell? ⟨ak,1,none⟩=some (.slice ai aa.length aj))∧(Kd.Q (Kd.int .i64) 3 w' w.heap.size (fun k_=>nL k_ ai aa aj) (.slice Aq_ ab.length cq_) ab)∧(Kd.R (Kd.int .i64) 3 w' w.heap.size (fun k_=>nL k_ Aq_ ab cq_) (.slice ai aa.length aj) aa)∧(Kd.S (Kd.slice 3 (Kd.int .i64)) 23 w' w.heap.size (fun k_=>nL k_ Aq_ ab cq_∧nL k_ ai aa aj) u7 aA)∧(w'.heap[ah]? = some (.cells #[.slice Aq_ ab.length cq_,.slice ai aa.length aj] 25 (0,0)))∧(w'.heap[ak]? = some (.cells #[.slice Aq_ ab.length cq_,.slice ai aa.length aj] 25 (0,0)))∧(IsS82 w0 w' g s0_0 aN)∧(KeepBut w w' g none)∧(Below w0.heap.size w0 w')) ?_ ?_
            rotate_left
            ·intro de
             refine join_ (σ:=Value×Addr) 6 (bs 12 287) (fun s_ => [(50,s_.1)]) (fun s_ w'=>(w'.cell? ⟨ak,0,none⟩=some (.slice Aq_ ab.length cq_)∧w'.cell? ⟨ak,1,none⟩=some (.slice ai aa.length aj))∧(Kd.R (Kd.int .i64) 3 w' w.heap.size (fun k_=>nL k_ Aq_ ab cq_∧nL k_ ai aa aj) s_.1 ap)∧(Kd.Q (Kd.int .i64) 3 w' w.heap.size (fun k_=>some k_≠(s_.1:Value).ownBlock∧nL k_ ai aa aj) (.slice Aq_ ab.length cq_) ab)∧(Kd.R (Kd.int .i64) 3 w' w.heap.size (fun k_=>some k_≠(s_.1:Value).ownBlock∧nL k_ Aq_ ab cq_) (.slice ai aa.length aj) aa)∧(Kd.S (Kd.slice 3 (Kd.int .i64)) 23 w' w.heap.size (fun k_=>some k_≠(s_.1:Value).ownBlock∧nL k_ Aq_ ab cq_∧nL k_ ai aa aj) u7 aA)∧(∃ c_,(s_.1:Value) = .slice (some s_.2) ap.length c_)∧(w'.heap[ah]? = some (.cells #[.slice none 0 0,.slice none 0 0] 25 (0,0)))∧(w'.heap[ak]? = some (.cells #[.slice Aq_ ab.length cq_,.slice ai aa.length aj] 25 (0,0)))∧(IsS82 w0 w' g s0_0 aJ)∧(KeepBut w w' g none)∧(Below w0.heap.size w0 w')) ?_ ?_
             rotate_left
             ·intro eu
              refine join_ (σ:=Unit) 6 (bs 12 311) (fun s_ => [(52,.int .i64 aC)]) (fun s_ w'=>(w'.cell? ⟨ak,0,none⟩=some (.slice Aq_ ab.length cq_)∧w'.cell? ⟨ak,1,none⟩=some (.slice ai aa.length aj))∧(Kd.Q (Kd.int .i64) 3 w' w.heap.size (fun k_=>nL k_ ai aa aj) (.slice Aq_ ab.length cq_) ab)∧(Kd.R (Kd.int .i64) 3 w' w.heap.size (fun k_=>nL k_ Aq_ ab cq_) (.slice ai aa.length aj) aa)∧(Kd.S (Kd.slice 3 (Kd.int .i64)) 23 w' w.heap.size (fun k_=>nL k_ Aq_ ab cq_∧nL k_ ai aa aj) u7 aA)∧(w'.heap[ah]? = some (.cells #[.slice none 0 0,.slice none 0 0] 25 (0,0)))∧(w'.heap[ak]? = some (.cells #[.slice Aq_ ab.length cq_,.slice ai aa.length aj] 25 (0,0)))∧(IsS82 w0 w' g s0_0 aN)∧(KeepBut w w' g none)∧(Below w0.heap.size w0 w')) ?_ ?_
              rotate_left
              ·intro ev
               refine two_ (i:=3) (j:=5) (Ni:=some 50) (Nj:=some 52) (bs 12 287) (bs 12 311) rfl rfl rfl rfl (two_of HT_.out (by kernel_rfl)) (by decide) (by decide) (fun K hK => ?_) (fun K hK => ?_)
               ·skip
                refine Kd.R_lit_step (Kd.int .i64) _ 3 ?hg (N:=50) ?hd (xs:=([0,7,wrap64 (av+1)]:List Int)) (inner := [.int .i64 0,.int .i64 7,.int .i64 (wrap64 (av+1))]) (ok:=fun _=>True) (okp:=fun _=>True) ?hr ?hp (fun _ hk=>hk) trivial (Below.refl _ _) (Nat.le_refl _) (by simp) ?_;(case hd=>rfl);(case hg=>rfl);(case hr=>first|(go_simp;done)|(go_simp;rfl));(case hp=>exact(Reps.one (show Kd.M (Kd.int .i64) _ _ _ 0 [.int .i64 0] from rfl) (Reps.one (show Kd.M (Kd.int .i64) _ _ _ 7 [.int .i64 7] from rfl) (Reps.one (show Kd.M (Kd.int .i64) _ _ _ (wrap64 (av+1)) [.int .i64 (wrap64 (av+1))] from rfl) (Reps.none _ _)))))
                intro ar w52 bb hb hg_ hnew_
                clear hg_ hnew_
                (first|rw [← aZ.out] at bb|(simp only [Int.reduceToNat] at bb;rw [← aZ.out] at bb))
                replace am:=A0_ (Kd.S_elder' (zS_ am) (Kd.R_base bb) hb)
                have au:=A0_ (rL (Kd.R_new' (Kd.R_new' bb (Kd.Q_lt (zQ_ ae))) (rX (zR_ ac))) (keep_size (w:=w) (g:=g) (row:=none) (zKp HK)))
                replace ae:=A0_ (Kd.Q_elder' (zQ_ ae) (Kd.R_base bb) hb)
                replace ac:=A0_ (Kd.R_elder' (zR_ ac) (Kd.R_base bb) hb)
                replace ag:=zK ag hb;replace af:=zK af hb
                replace HK:=A0_ (KeepBut.trans (zKp HK) (KeepBut.of_below hb g none) (.inl rfl))
                replace HB:=A0_ (bT (zBw HB) hb)
                replace HI0:=A0_ (IsS82.below (zIs HI0) hb)
                clear hb bb;obtain⟨ff,dB,dC⟩:=rS au.out;subst dC
                obtain⟨ct,fo54,_⟩:=tI (rR au.out).2.2 0 (by decide) (by rw [aZ.out];simp)
                cases fo54
                refine hK.out _ _ ⟨(kC af.out 0).trans rfl,(kC af.out 1).trans rfl⟩ (fun hHeld => ?_)
                clear hK K
                refine zN (some 50) ?_
                exact norm_ zA (eu (.slice (some ct) ap.length dB,ct) _ ⟨hHeld,(zmR au (fun _ hk=>⟨hk.1.2,hk.2⟩)),(zmQ ae (fun _ hk=>⟨hk.2,hk.1⟩)),(zmR ac (fun _ hk=>⟨hk.2,hk.1⟩)),(zmS am (fun _ hk=>⟨hk.2,⟨hk.1.1,hk.1.2⟩⟩)),⟨_,rfl⟩,(zK_ ag),(zK_ af),(zIs HI0),(zKp HK),(zBw HB)⟩)
               skip
               refine zg Try.func74 #[.pointer (some ⟨g,0,none⟩),.int .i64 3] ?_
               with_reducible refine(s1a_.calls k3 g s0_0 aJ 3 aC aN w0 _ ?ay ?az dp.out).mono ?_
               (case ay=>repeat(first|(with_reducible first|exact HI0.out|apply IsS82.alloc|apply IsS82.drewN|apply IsS82.drew|apply IsS82.set_1|refine IsS82.far ?_ aD.out _|refine IsS82.far ?_ aw.out _)|exact HI0.out))
               (case az=>repeat(first|(with_reducible first|exact HB.out|apply bA|apply bN|apply bD|refine bS ?_ (IsS82.ge HI0.out)|refine bS ?_ aK.out|refine bS ?_ aY.out)|exact HB.out))
               rintro e w52 ⟨rfl,hi,hb,hk⟩
               refine⟨_,rfl,?_⟩
               replace am:=A0_ (sM (Kd.S_keep (IsS82.apartS (show IsS82 w0 _ g s0_0 aJ from zIs HI0) (zS_ am) (by decide)) hk (fun _ h=>h.2)) (fun _ h=>h.1))
               replace ae:=A0_ (Kd.Q_mono (Kd.Q_keep (IsS82.apartQ (show IsS82 w0 _ g s0_0 aJ from zIs HI0) (zQ_ ae) (by decide)) hk (fun _ h=>h.2)) (fun _ h=>h.1))
               replace ac:=A0_ (rM (Kd.R_keep (IsS82.apart (show IsS82 w0 _ g s0_0 aJ from zIs HI0) (zR_ ac) (by decide)) hk (fun _ h=>h.2)) (fun _ h=>h.1))
               replace ag:=A0_ (KeepBut.blk hk (g':=ah) (o := .cells #[.slice none 0 0,.slice none 0 0] 25 (0,0)) (zK_ ag) aE.out (by simp))
               replace af:=A0_ (KeepBut.blk hk (g':=ak) (o := .cells #[.slice Aq_ ab.length cq_,.slice ai aa.length aj] 25 (0,0)) (zK_ af) ax.out (by simp))
               replace HK:=A0_ (KeepBut.trans (zKp HK) hk (.inl rfl))
               replace HB:=A0_ (hb)
               replace HI0:=A0_ (hi)
               (try clear hb);(try clear hk);(try clear hi)
               refine hK.out _ _ ⟨(kC af.out 0).trans rfl,(kC af.out 1).trans rfl⟩ (fun hHeld => ?_)
               clear hK K
               refine zN (some 52) ?_
               exact norm_ zA (ev () _ ⟨hHeld,(zQ_ ae),(zR_ ac),(zS_ am),(zK_ ag),(zK_ af),(zIs HI0),(zKp HK),(zBw HB)⟩)
              skip
              rintro _ w53 ⟨hS_,h0_,h1_,h2_,h3_,h4_,h5_,h6_,h7_⟩
              replace ae:Aside0 (Kd.Q (Kd.int .i64) 3 w53 w.heap.size (fun k_=>nL k_ ai aa aj) (.slice Aq_ ab.length cq_) ab):=⟨h0_⟩
              replace ac:Aside0 (Kd.R (Kd.int .i64) 3 w53 w.heap.size (fun k_=>nL k_ Aq_ ab cq_) (.slice ai aa.length aj) aa):=⟨h1_⟩
              replace am:Aside0 (Kd.S (Kd.slice 3 (Kd.int .i64)) 23 w53 w.heap.size (fun k_=>nL k_ Aq_ ab cq_∧nL k_ ai aa aj) u7 aA):=⟨h2_⟩
              replace ag:Aside0 (w53.heap[ah]? = some (.cells #[.slice none 0 0,.slice none 0 0] 25 (0,0))):=⟨h3_⟩
              replace af:Aside0 (w53.heap[ak]? = some (.cells #[.slice Aq_ ab.length cq_,.slice ai aa.length aj] 25 (0,0))):=⟨h4_⟩
              replace HI0:Aside0 (IsS82 w0 w53 g s0_0 aN):=⟨h5_⟩
              replace HK:Aside0 (KeepBut w w53 g none):=⟨h6_⟩
              replace HB:Aside0 (Below w0.heap.size w0 w53):=⟨h7_⟩
              clear h0_ h1_ h2_ h3_ h4_ h5_ h6_ h7_
              have hHeld:w53.cell? ⟨ak,0,none⟩=some (.slice Aq_ ab.length cq_)∧w53.cell? ⟨ak,1,none⟩=some (.slice ai aa.length aj):=hS_
              refine norm_ (a' := ?_) ?_ ?_
              rotate_left
              ·simp only [putAll,Act.put,List.setIfInBounds_toArray,List.set_cons_zero,List.set_cons_succ]
               rfl
              refine two_ (i:=3) (j:=9) (Ni:=some 50) (Nj:=none) (bs 12 319) (bs 12 823) rfl rfl rfl rfl (two_of HT_.out (by kernel_rfl)) (by decide) (by decide) (fun K hK => ?_) (fun K hK => ?_)
              ·skip
               refine Kd.R_lit_step (Kd.int .i64) _ 3 ?hg (N:=50) ?hd (xs:=([0,7,wrap64 (av+1)]:List Int)) (inner := [.int .i64 0,.int .i64 7,.int .i64 (wrap64 (av+1))]) (ok:=fun _=>True) (okp:=fun _=>True) ?hr ?hp (fun _ hk=>hk) trivial (Below.refl _ _) (Nat.le_refl _) (by simp) ?_;(case hd=>rfl);(case hg=>rfl);(case hr=>first|(go_simp;done)|(go_simp;rfl));(case hp=>exact(Reps.one (show Kd.M (Kd.int .i64) _ _ _ 0 [.int .i64 0] from rfl) (Reps.one (show Kd.M (Kd.int .i64) _ _ _ 7 [.int .i64 7] from rfl) (Reps.one (show Kd.M (Kd.int .i64) _ _ _ (wrap64 (av+1)) [.int .i64 (wrap64 (av+1))] from rfl) (Reps.none _ _)))))
               intro ar w54 bc hb hg_ hnew_
               clear hg_ hnew_
               (first|rw [← aZ.out] at bc|(simp only [Int.reduceToNat] at bc;rw [← aZ.out] at bc))
               replace am:=A0_ (Kd.S_elder' (zS_ am) (Kd.R_base bc) hb)
               have au:=A0_ (rL (Kd.R_new' (Kd.R_new' bc (Kd.Q_lt (zQ_ ae))) (rX (zR_ ac))) (keep_size (w:=w) (g:=g) (row:=none) (zKp HK)))
               replace ae:=A0_ (Kd.Q_elder' (zQ_ ae) (Kd.R_base bc) hb)
               replace ac:=A0_ (Kd.R_elder' (zR_ ac) (Kd.R_base bc) hb)
               replace ag:=zK ag hb;replace af:=zK af hb
               replace HK:=A0_ (KeepBut.trans (zKp HK) (KeepBut.of_below hb g none) (.inl rfl))
               replace HB:=A0_ (bT (zBw HB) hb)
               replace HI0:=A0_ (IsS82.below (zIs HI0) hb)
               clear hb bc;obtain⟨fg,cf,cg⟩:=rS au.out;subst cg
               obtain⟨cu,fo56,_⟩:=tI (rR au.out).2.2 0 (by decide) (by rw [aZ.out];simp)
               cases fo56
               refine hK.out _ _ ⟨(kC af.out 0).trans rfl,(kC af.out 1).trans rfl⟩ (fun hHeld => ?_)
               clear hK K
               refine zN (some 50) ?_
               refine zP 6 (some 53) (bs 12 383) ?_
               exact norm_ zA (cr (.slice (some cu) ap.length cf,cu) _ ⟨hHeld,(zmR au (fun _ hk=>⟨hk.1.2,hk.2⟩)),(zmQ ae (fun _ hk=>⟨hk.2,hk.1⟩)),(zmR ac (fun _ hk=>⟨hk.2,hk.1⟩)),(zmS am (fun _ hk=>⟨hk.2,⟨hk.1.1,hk.1.2⟩⟩)),⟨_,rfl⟩,(zK_ ag),(zK_ af),(zIs HI0),(zKp HK),(zBw HB)⟩)
              skip
              have fh:w53.cell? ⟨ah,0,none⟩=some (.slice none 0 0):=(kC ag.out 0).trans rfl
              have eR:=kF ag.out 0;have d0:=al.out;have d3:=an.out
              have fi:w53.cell? ⟨ah,1,none⟩=some (.slice none 0 0):=(kC ag.out 1).trans rfl
              have eS:=kF ag.out 1;have d4:=al.out;have d5:=an.out
              refine skip_ (w1 := ?_) (by rfl) rfl ?_ ?_
              rotate_left
              ·go_simp
               rfl
              refine hK.out _ _ ⟨((cell_far (p:=⟨ah,_,none⟩) al.out _).trans (((cell_far (p:=⟨ah,_,none⟩) al.out _).trans (hHeld.1)))),((cell_far (p:=⟨ah,_,none⟩) al.out _).trans (((cell_far (p:=⟨ah,_,none⟩) al.out _).trans (hHeld.2))))⟩ (fun hHeld => ?_)
              clear hK K
              exact norm_ zA (de () _ ⟨hHeld,(by(with_reducible repeat(first|apply Kd.Q_alloc|apply Kd.Q_drewN|apply Kd.Q_drew));exact Kd.Q_mono (Kd.Q_far (p:=⟨ah,1,none⟩) (Kd.Q_far (p:=⟨ah,0,none⟩) (Kd.Q_types ae.out ag.out (by decide)) (fun _ hk=>hk.2) (.slice Aq_ ab.length cq_)) (fun _ hk=>hk.2) (.slice ai aa.length aj)) (fun _ hk=>hk.1)),(zF ac ag (.slice Aq_ ab.length cq_) (.slice ai aa.length aj) 0 1),(by(with_reducible repeat(first|apply sA|apply sN|apply sD));exact sM (Kd.S_far (p:=⟨ah,1,none⟩) (Kd.S_far (p:=⟨ah,0,none⟩) (Kd.S_types am.out ag.out (by decide)) (fun _ hk=>hk.2) (.slice Aq_ ab.length cq_)) (fun _ hk=>hk.2) (.slice ai aa.length aj)) (fun _ hk=>⟨hk.1.1,hk.1.2⟩)),(by refine zbp (cs := #[.slice Aq_ ab.length cq_,.slice none 0 0]) ?_ 1 _ rfl;refine zbp (cs := #[.slice none 0 0,.slice none 0 0]) ?_ 0 _ rfl;exact zK_ ag),(by refine zbf ?_ _ (hp:=by exact al.out);refine zbf ?_ _ (hp:=by exact al.out);exact zK_ af),(zIs HI0),(zKp HK),(zBw HB)⟩)
             skip
             rintro⟨ar,ao⟩ w55 ⟨hS_,h0_,h1_,h2_,h3_,h4_,h5_,h6_,h7_,h8_,h9_⟩
             have au:Aside0 (Kd.R (Kd.int .i64) 3 w55 w.heap.size (fun k_=>nL k_ Aq_ ab cq_∧nL k_ ai aa aj) ar ap):=⟨h0_⟩
             replace ae:Aside0 (Kd.Q (Kd.int .i64) 3 w55 w.heap.size (fun k_=>nO k_ ar∧nL k_ ai aa aj) (.slice Aq_ ab.length cq_) ab):=⟨h1_⟩
             replace ac:Aside0 (Kd.R (Kd.int .i64) 3 w55 w.heap.size (fun k_=>nO k_ ar∧nL k_ Aq_ ab cq_) (.slice ai aa.length aj) aa):=⟨h2_⟩
             replace am:Aside0 (Kd.S (Kd.slice 3 (Kd.int .i64)) 23 w55 w.heap.size (fun k_=>nO k_ ar∧nL k_ Aq_ ab cq_∧nL k_ ai aa aj) u7 aA):=⟨h3_⟩
             have HA_HO371:Aside0 (∃ c_,(ar:Value) = .slice (some ao) ap.length c_):=⟨h4_⟩
             replace ag:Aside0 (w55.heap[ah]? = some (.cells #[.slice none 0 0,.slice none 0 0] 25 (0,0))):=⟨h5_⟩
             replace af:Aside0 (w55.heap[ak]? = some (.cells #[.slice Aq_ ab.length cq_,.slice ai aa.length aj] 25 (0,0))):=⟨h6_⟩
             replace HI0:Aside0 (IsS82 w0 w55 g s0_0 aJ):=⟨h7_⟩
             replace HK:Aside0 (KeepBut w w55 g none):=⟨h8_⟩
             replace HB:Aside0 (Below w0.heap.size w0 w55):=⟨h9_⟩
             clear h0_ h1_ h2_ h3_ h4_ h5_ h6_ h7_ h8_ h9_
             have hHeld:w55.cell? ⟨ak,0,none⟩=some (.slice Aq_ ab.length cq_)∧w55.cell? ⟨ak,1,none⟩=some (.slice ai aa.length aj):=hS_
             obtain⟨cf,cg⟩:=HA_HO371.out;clear HA_HO371;subst cg
             refine norm_ (a' := ?_) ?_ ?_
             rotate_left
             ·simp only [putAll,Act.put,List.setIfInBounds_toArray,List.set_cons_zero,List.set_cons_succ]
              rfl
             refine one_ (i:=5) (N:=some 52) (bs 12 319) rfl rfl (one_of HT_.out (by kernel_rfl)) (by decide) (fun K hK => ?_)
             refine zg Try.func74 #[.pointer (some ⟨g,0,none⟩),.int .i64 3] ?_
             with_reducible refine(s1a_.calls k3 g s0_0 aJ 3 aC aN w0 _ ?ay ?az dp.out).mono ?_
             (case ay=>repeat(first|(with_reducible first|exact HI0.out|apply IsS82.alloc|apply IsS82.drewN|apply IsS82.drew|apply IsS82.set_1|refine IsS82.far ?_ aD.out _|refine IsS82.far ?_ aw.out _)|exact HI0.out))
             (case az=>repeat(first|(with_reducible first|exact HB.out|apply bA|apply bN|apply bD|refine bS ?_ (IsS82.ge HI0.out)|refine bS ?_ aK.out|refine bS ?_ aY.out)|exact HB.out))
             rintro e w57 ⟨rfl,hi,hb,hk⟩
             refine⟨_,rfl,?_⟩
             replace am:=A0_ (sM (Kd.S_keep (IsS82.apartS (show IsS82 w0 _ g s0_0 aJ from zIs HI0) (zS_ am) (by decide)) hk (fun _ h=>h.2)) (fun _ h=>h.1))
             replace ae:=A0_ (Kd.Q_mono (Kd.Q_keep (IsS82.apartQ (show IsS82 w0 _ g s0_0 aJ from zIs HI0) (zQ_ ae) (by decide)) hk (fun _ h=>h.2)) (fun _ h=>h.1))
             replace ac:=A0_ (rM (Kd.R_keep (IsS82.apart (show IsS82 w0 _ g s0_0 aJ from zIs HI0) (zR_ ac) (by decide)) hk (fun _ h=>h.2)) (fun _ h=>h.1))
             replace ag:=A0_ (KeepBut.blk hk (g':=ah) (o := .cells #[.slice none 0 0,.slice none 0 0] 25 (0,0)) (zK_ ag) aE.out (by simp))
             replace af:=A0_ (KeepBut.blk hk (g':=ak) (o := .cells #[.slice Aq_ ab.length cq_,.slice ai aa.length aj] 25 (0,0)) (zK_ af) ax.out (by simp))
             replace au:=A0_ (rM (Kd.R_keep (IsS82.apart (show IsS82 w0 _ g s0_0 aJ from zIs HI0) (zR_ au) (by decide)) hk (fun _ h=>h.2)) (fun _ h=>h.1))
             replace HK:=A0_ (KeepBut.trans (zKp HK) hk (.inl rfl))
             replace HB:=A0_ (hb)
             replace HI0:=A0_ (hi)
             (try clear hb);(try clear hk);(try clear hi)
             refine hK.out _ _ ⟨(kC af.out 0).trans rfl,(kC af.out 1).trans rfl⟩ (fun hHeld => ?_)
             clear hK K
             refine zN (some 52) ?_
             refine zP 6 (some 53) (bs 12 383) ?_
             exact norm_ zA (cr (.slice (some ao) ap.length cf,ao) _ ⟨hHeld,(zR_ au),(zQ_ ae),(zR_ ac),(zS_ am),⟨_,rfl⟩,(zK_ ag),(zK_ af),(zIs HI0),(zKp HK),(zBw HB)⟩)
            skip
            rintro _ w56 ⟨hS_,h0_,h1_,h2_,h3_,h4_,h5_,h6_,h7_⟩
            replace ae:Aside0 (Kd.Q (Kd.int .i64) 3 w56 w.heap.size (fun k_=>nL k_ ai aa aj) (.slice Aq_ ab.length cq_) ab):=⟨h0_⟩
            replace ac:Aside0 (Kd.R (Kd.int .i64) 3 w56 w.heap.size (fun k_=>nL k_ Aq_ ab cq_) (.slice ai aa.length aj) aa):=⟨h1_⟩
            replace am:Aside0 (Kd.S (Kd.slice 3 (Kd.int .i64)) 23 w56 w.heap.size (fun k_=>nL k_ Aq_ ab cq_∧nL k_ ai aa aj) u7 aA):=⟨h2_⟩
            replace ag:Aside0 (w56.heap[ah]? = some (.cells #[.slice Aq_ ab.length cq_,.slice ai aa.length aj] 25 (0,0))):=⟨h3_⟩
            replace af:Aside0 (w56.heap[ak]? = some (.cells #[.slice Aq_ ab.length cq_,.slice ai aa.length aj] 25 (0,0))):=⟨h4_⟩
            replace HI0:Aside0 (IsS82 w0 w56 g s0_0 aN):=⟨h5_⟩
            replace HK:Aside0 (KeepBut w w56 g none):=⟨h6_⟩
            replace HB:Aside0 (Below w0.heap.size w0 w56):=⟨h7_⟩
            clear h0_ h1_ h2_ h3_ h4_ h5_ h6_ h7_
            have hHeld:w56.cell? ⟨ak,0,none⟩=some (.slice Aq_ ab.length cq_)∧w56.cell? ⟨ak,1,none⟩=some (.slice ai aa.length aj):=hS_
            refine norm_ (a' := ?_) ?_ ?_
            rotate_left
            ·simp only [putAll,Act.put,List.setIfInBounds_toArray,List.set_cons_zero,List.set_cons_succ]
             rfl
            refine one_ (i:=3) (N:=some 50) (bs 12 831) rfl rfl (one_of HT_.out (by kernel_rfl)) (by decide) (fun K hK => ?_)
            refine Kd.R_lit_step (Kd.int .i64) _ 3 ?hg (N:=50) ?hd (xs:=([0,7,wrap64 (av+1)]:List Int)) (inner := [.int .i64 0,.int .i64 7,.int .i64 (wrap64 (av+1))]) (ok:=fun _=>True) (okp:=fun _=>True) ?hr ?hp (fun _ hk=>hk) trivial (Below.refl _ _) (Nat.le_refl _) (by simp) ?_;(case hd=>rfl);(case hg=>rfl);(case hr=>first|(go_simp;done)|(go_simp;rfl));(case hp=>exact(Reps.one (show Kd.M (Kd.int .i64) _ _ _ 0 [.int .i64 0] from rfl) (Reps.one (show Kd.M (Kd.int .i64) _ _ _ 7 [.int .i64 7] from rfl) (Reps.one (show Kd.M (Kd.int .i64) _ _ _ (wrap64 (av+1)) [.int .i64 (wrap64 (av+1))] from rfl) (Reps.none _ _)))))
            intro ar w57 bd hb hg_ hnew_
            clear hg_ hnew_
            (first|rw [← aZ.out] at bd|(simp only [Int.reduceToNat] at bd;rw [← aZ.out] at bd))
            replace am:=A0_ (Kd.S_elder' (zS_ am) (Kd.R_base bd) hb)
            have au:=A0_ (rL (Kd.R_new' (Kd.R_new' bd (Kd.Q_lt (zQ_ ae))) (rX (zR_ ac))) (keep_size (w:=w) (g:=g) (row:=none) (zKp HK)))
            replace ae:=A0_ (Kd.Q_elder' (zQ_ ae) (Kd.R_base bd) hb)
            replace ac:=A0_ (Kd.R_elder' (zR_ ac) (Kd.R_base bd) hb)
            replace ag:=zK ag hb;replace af:=zK af hb
            replace HK:=A0_ (KeepBut.trans (zKp HK) (KeepBut.of_below hb g none) (.inl rfl))
            replace HB:=A0_ (bT (zBw HB) hb)
            replace HI0:=A0_ (IsS82.below (zIs HI0) hb)
            clear hb bd;obtain⟨fj,dD,dE⟩:=rS au.out;subst dE
            obtain⟨cv,fo59,_⟩:=tI (rR au.out).2.2 0 (by decide) (by rw [aZ.out];simp)
            cases fo59
            refine hK.out _ _ ⟨(kC af.out 0).trans rfl,(kC af.out 1).trans rfl⟩ (fun hHeld => ?_)
            clear hK K
            refine zN (some 50) ?_
            refine zP 6 (some 53) (bs 12 895) ?_
            exact norm_ zA (b2 (.slice (some cv) ap.length dD,cv) _ ⟨hHeld,(zmR au (fun _ hk=>⟨hk.1.2,hk.2⟩)),(zmQ ae (fun _ hk=>⟨hk.2,hk.1⟩)),(zmR ac (fun _ hk=>⟨hk.2,hk.1⟩)),(zmS am (fun _ hk=>⟨hk.2,⟨hk.1.1,hk.1.2⟩⟩)),⟨_,rfl⟩,(zK_ ag),(zK_ af),(zIs HI0),(zKp HK),(zBw HB)⟩)
           skip
           rintro⟨ar,ao⟩ w56 ⟨hS_,h0_,h1_,h2_,h3_,h4_,h5_,h6_,h7_,h8_,h9_⟩
           have au:Aside0 (Kd.R (Kd.int .i64) 3 w56 w.heap.size (fun k_=>nL k_ Aq_ ab cq_∧nL k_ ai aa aj) ar ap):=⟨h0_⟩
           replace ae:Aside0 (Kd.Q (Kd.int .i64) 3 w56 w.heap.size (fun k_=>nO k_ ar∧nL k_ ai aa aj) (.slice Aq_ ab.length cq_) ab):=⟨h1_⟩
           replace ac:Aside0 (Kd.R (Kd.int .i64) 3 w56 w.heap.size (fun k_=>nO k_ ar∧nL k_ Aq_ ab cq_) (.slice ai aa.length aj) aa):=⟨h2_⟩
           replace am:Aside0 (Kd.S (Kd.slice 3 (Kd.int .i64)) 23 w56 w.heap.size (fun k_=>nO k_ ar∧nL k_ Aq_ ab cq_∧nL k_ ai aa aj) u7 aA):=⟨h3_⟩
           have HA_HO371:Aside0 (∃ c_,(ar:Value) = .slice (some ao) ap.length c_):=⟨h4_⟩
           replace ag:Aside0 (w56.heap[ah]? = some (.cells #[.slice none 0 0,.slice none 0 0] 25 (0,0))):=⟨h5_⟩
           replace af:Aside0 (w56.heap[ak]? = some (.cells #[.slice Aq_ ab.length cq_,.slice ai aa.length aj] 25 (0,0))):=⟨h6_⟩
           replace HI0:Aside0 (IsS82 w0 w56 g s0_0 aN):=⟨h7_⟩
           replace HK:Aside0 (KeepBut w w56 g none):=⟨h8_⟩
           replace HB:Aside0 (Below w0.heap.size w0 w56):=⟨h9_⟩
           clear h0_ h1_ h2_ h3_ h4_ h5_ h6_ h7_ h8_ h9_
           have hHeld:w56.cell? ⟨ak,0,none⟩=some (.slice Aq_ ab.length cq_)∧w56.cell? ⟨ak,1,none⟩=some (.slice ai aa.length aj):=hS_
           obtain⟨b7,ch⟩:=HA_HO371.out;clear HA_HO371;subst ch;skip
           (first|skip|(injection dG with f1_ f2_ f3_;have f4_:=f1_.symm;have f5_:=f3_.symm;clear f1_ f2_ f3_;subst f4_;subst f5_))
           refine norm_ (a' := ?_) ?_ ?_
           rotate_left
           ·simp only [putAll,Act.put,List.setIfInBounds_toArray,List.set_cons_zero,List.set_cons_succ]
            rfl
           refine two_ (i:=7) (j:=9) (Ni:=some 54) (Nj:=none) (bs 12 511) (bs 12 895) rfl rfl rfl rfl (two_of HT_.out (by kernel_rfl)) (by decide) (by decide) (fun K hK => ?_) (fun K hK => ?_)
           ·skip
            (have ci:0≤(aC:Int):=zd;have cj:aC<(ap.length:Int):=zd;obtain⟨b8,ck,bu⟩:=tI (rR au.out).2.2 aC ci cj;obtain rfl:ao=b8:=(by injection ck))
            refine value_ (w1 := ?_) (v := ?_) (by rfl) rfl ?_ ?_
            rotate_left 2
            ·go_simp
             constructor
             ·rfl
             rfl
            clear bu
            refine hK.out _ _ ⟨(kC af.out 0).trans rfl,(kC af.out 1).trans rfl⟩ (fun hHeld => ?_)
            clear hK K
            refine zN (some 54) ?_
            exact norm_ zA (cw (.slice (some ao) ap.length b7,ao) _ ⟨hHeld,(zR_ au),(zQ_ ae),(zR_ ac),(zS_ am),⟨_,rfl⟩,(zK_ ag),(zK_ af),(zIs HI0),(zKp HK),(zBw HB)⟩)
           skip
           have dH:w56.cell? ⟨ah,0,none⟩=some (.slice none 0 0):=(kC ag.out 0).trans rfl
           have df:=kF ag.out 0;have cx:=al.out;have cy:=an.out
           have dI:w56.cell? ⟨ah,1,none⟩=some (.slice none 0 0):=(kC ag.out 1).trans rfl
           have dg:=kF ag.out 1;have cz:=al.out;have cC:=an.out
           refine skip_ (w1 := ?_) (by rfl) rfl ?_ ?_
           rotate_left
           ·go_simp
            rfl
           refine hK.out _ _ ⟨((cell_far (p:=⟨ah,_,none⟩) al.out _).trans (((cell_far (p:=⟨ah,_,none⟩) al.out _).trans (hHeld.1)))),((cell_far (p:=⟨ah,_,none⟩) al.out _).trans (((cell_far (p:=⟨ah,_,none⟩) al.out _).trans (hHeld.2))))⟩ (fun hHeld => ?_)
           clear hK K
           exact norm_ zA (b2 (.slice (some ao) ap.length b7,ao) _ ⟨hHeld,(by(with_reducible repeat(first|apply rA|apply rN|apply rD));exact rM (rF (p:=⟨ah,1,none⟩) (rF (p:=⟨ah,0,none⟩) (rY au.out ag.out (by decide)) (fun _ hk=>hk.2) (.slice Aq_ ab.length cq_)) (fun _ hk=>hk.2) (.slice ai aa.length aj)) (fun _ hk=>⟨hk.1.1,hk.1.2⟩)),(by(with_reducible repeat(first|apply Kd.Q_alloc|apply Kd.Q_drewN|apply Kd.Q_drew));exact Kd.Q_mono (Kd.Q_far (p:=⟨ah,1,none⟩) (Kd.Q_far (p:=⟨ah,0,none⟩) (Kd.Q_types ae.out ag.out (by decide)) (fun _ hk=>hk.2) (.slice Aq_ ab.length cq_)) (fun _ hk=>hk.2) (.slice ai aa.length aj)) (fun _ hk=>⟨hk.1.1,hk.1.2⟩)),(by(with_reducible repeat(first|apply rA|apply rN|apply rD));exact rM (rF (p:=⟨ah,1,none⟩) (rF (p:=⟨ah,0,none⟩) (rY ac.out ag.out (by decide)) (fun _ hk=>hk.2) (.slice Aq_ ab.length cq_)) (fun _ hk=>hk.2) (.slice ai aa.length aj)) (fun _ hk=>⟨hk.1.1,hk.1.2⟩)),(by(with_reducible repeat(first|apply sA|apply sN|apply sD));exact sM (Kd.S_far (p:=⟨ah,1,none⟩) (Kd.S_far (p:=⟨ah,0,none⟩) (Kd.S_types am.out ag.out (by decide)) (fun _ hk=>hk.2) (.slice Aq_ ab.length cq_)) (fun _ hk=>hk.2) (.slice ai aa.length aj)) (fun _ hk=>⟨hk.1.1,⟨hk.1.2.1,hk.1.2.2⟩⟩)),⟨_,rfl⟩,(by refine zbp (cs := #[.slice Aq_ ab.length cq_,.slice none 0 0]) ?_ 1 _ rfl;refine zbp (cs := #[.slice none 0 0,.slice none 0 0]) ?_ 0 _ rfl;exact zK_ ag),(by refine zbf ?_ _ (hp:=by exact al.out);refine zbf ?_ _ (hp:=by exact al.out);exact zK_ af),(zIs HI0),(zKp HK),(zBw HB)⟩)
          skip
          rintro⟨ar,ao⟩ w59 ⟨hS_,h0_,h1_,h2_,h3_,h4_,h5_,h6_,h7_,h8_,h9_⟩
          have au:Aside0 (Kd.R (Kd.int .i64) 3 w59 w.heap.size (fun k_=>nL k_ Aq_ ab cq_∧nL k_ ai aa aj) ar ap):=⟨h0_⟩
          replace ae:Aside0 (Kd.Q (Kd.int .i64) 3 w59 w.heap.size (fun k_=>nO k_ ar∧nL k_ ai aa aj) (.slice Aq_ ab.length cq_) ab):=⟨h1_⟩
          replace ac:Aside0 (Kd.R (Kd.int .i64) 3 w59 w.heap.size (fun k_=>nO k_ ar∧nL k_ Aq_ ab cq_) (.slice ai aa.length aj) aa):=⟨h2_⟩
          replace am:Aside0 (Kd.S (Kd.slice 3 (Kd.int .i64)) 23 w59 w.heap.size (fun k_=>nO k_ ar∧nL k_ Aq_ ab cq_∧nL k_ ai aa aj) u7 aA):=⟨h3_⟩
          have HA_HO371:Aside0 (∃ c_,(ar:Value) = .slice (some ao) ap.length c_):=⟨h4_⟩
          replace ag:Aside0 (w59.heap[ah]? = some (.cells #[.slice Aq_ ab.length cq_,.slice ai aa.length aj] 25 (0,0))):=⟨h5_⟩
          replace af:Aside0 (w59.heap[ak]? = some (.cells #[.slice Aq_ ab.length cq_,.slice ai aa.length aj] 25 (0,0))):=⟨h6_⟩
          replace HI0:Aside0 (IsS82 w0 w59 g s0_0 aN):=⟨h7_⟩
          replace HK:Aside0 (KeepBut w w59 g none):=⟨h8_⟩
          replace HB:Aside0 (Below w0.heap.size w0 w59):=⟨h9_⟩
          clear h0_ h1_ h2_ h3_ h4_ h5_ h6_ h7_ h8_ h9_
          have hHeld:w59.cell? ⟨ak,0,none⟩=some (.slice Aq_ ab.length cq_)∧w59.cell? ⟨ak,1,none⟩=some (.slice ai aa.length aj):=hS_
          obtain⟨cR,cl⟩:=HA_HO371.out;clear HA_HO371;subst cl
          refine norm_ (a' := ?_) ?_ ?_
          rotate_left
          ·simp only [putAll,Act.put,List.setIfInBounds_toArray,List.set_cons_zero,List.set_cons_succ]
           rfl
          refine one_ (i:=7) (N:=some 54) (bs 12 1023) rfl rfl (one_of HT_.out (by kernel_rfl)) (by decide) (fun K hK => ?_)
          (have ci:0≤(aC:Int):=zd;have cj:aC<(ap.length:Int):=zd;obtain⟨b8,ck,bu⟩:=tI (rR au.out).2.2 aC ci cj;obtain rfl:ao=b8:=(by injection ck))
          refine value_ (w1 := ?_) (v := ?_) (by rfl) rfl ?_ ?_
          rotate_left 2
          ·go_simp
           constructor
           ·rfl
           rfl
          clear bu
          refine hK.out _ _ ⟨(kC af.out 0).trans rfl,(kC af.out 1).trans rfl⟩ (fun hHeld => ?_)
          clear hK K
          refine zN (some 54) ?_
          exact norm_ zA (bv (.slice (some ao) ap.length cR,ao) _ ⟨hHeld,(zR_ au),(zQ_ ae),(zR_ ac),(zS_ am),⟨_,rfl⟩,(zK_ ag),(zK_ af),(zIs HI0),(zKp HK),(zBw HB)⟩)
         skip
         rintro⟨ar,ao⟩ w56 ⟨hS_,h0_,h1_,h2_,h3_,h4_,h5_,h6_,h7_,h8_,h9_⟩
         have au:Aside0 (Kd.R (Kd.int .i64) 3 w56 w.heap.size (fun k_=>nL k_ Aq_ ab cq_∧nL k_ ai aa aj) ar ap):=⟨h0_⟩
         replace ae:Aside0 (Kd.Q (Kd.int .i64) 3 w56 w.heap.size (fun k_=>nO k_ ar∧nL k_ ai aa aj) (.slice Aq_ ab.length cq_) ab):=⟨h1_⟩
         replace ac:Aside0 (Kd.R (Kd.int .i64) 3 w56 w.heap.size (fun k_=>nO k_ ar∧nL k_ Aq_ ab cq_) (.slice ai aa.length aj) aa):=⟨h2_⟩
         replace am:Aside0 (Kd.S (Kd.slice 3 (Kd.int .i64)) 23 w56 w.heap.size (fun k_=>nO k_ ar∧nL k_ Aq_ ab cq_∧nL k_ ai aa aj) u7 aA):=⟨h3_⟩
         have HA_HO371:Aside0 (∃ c_,(ar:Value) = .slice (some ao) ap.length c_):=⟨h4_⟩
         replace ag:Aside0 (w56.heap[ah]? = some (.cells #[.slice none 0 0,.slice none 0 0] 25 (0,0))):=⟨h5_⟩
         replace af:Aside0 (w56.heap[ak]? = some (.cells #[.slice Aq_ ab.length cq_,.slice ai aa.length aj] 25 (0,0))):=⟨h6_⟩
         replace HI0:Aside0 (IsS82 w0 w56 g s0_0 aN):=⟨h7_⟩
         replace HK:Aside0 (KeepBut w w56 g none):=⟨h8_⟩
         replace HB:Aside0 (Below w0.heap.size w0 w56):=⟨h9_⟩
         clear h0_ h1_ h2_ h3_ h4_ h5_ h6_ h7_ h8_ h9_
         have hHeld:w56.cell? ⟨ak,0,none⟩=some (.slice Aq_ ab.length cq_)∧w56.cell? ⟨ak,1,none⟩=some (.slice ai aa.length aj):=hS_
         obtain⟨b7,ch⟩:=HA_HO371.out;clear HA_HO371;subst ch;skip
         (first|skip|(injection dG with f1_ f2_ f3_;have f4_:=f1_.symm;have f5_:=f3_.symm;clear f1_ f2_ f3_;subst f4_;subst f5_))
         refine norm_ (a' := ?_) ?_ ?_
         rotate_left
         ·simp only [putAll,Act.put,List.setIfInBounds_toArray,List.set_cons_zero,List.set_cons_succ]
          rfl
         refine one_ (i:=9) (N:=none) (bs 12 1023) rfl rfl (one_of HT_.out (by kernel_rfl)) (by decide) (fun K hK => ?_)
         have dH:w56.cell? ⟨ah,0,none⟩=some (.slice none 0 0):=(kC ag.out 0).trans rfl
         have df:=kF ag.out 0;have cx:=al.out;have cy:=an.out
         have dI:w56.cell? ⟨ah,1,none⟩=some (.slice none 0 0):=(kC ag.out 1).trans rfl
         have dg:=kF ag.out 1;have cz:=al.out;have cC:=an.out
         refine skip_ (w1 := ?_) (by rfl) rfl ?_ ?_
         rotate_left
         ·go_simp
          rfl
         refine hK.out _ _ ⟨((cell_far (p:=⟨ah,_,none⟩) al.out _).trans (((cell_far (p:=⟨ah,_,none⟩) al.out _).trans (hHeld.1)))),((cell_far (p:=⟨ah,_,none⟩) al.out _).trans (((cell_far (p:=⟨ah,_,none⟩) al.out _).trans (hHeld.2))))⟩ (fun hHeld => ?_)
         clear hK K
         exact norm_ zA (bv (.slice (some ao) ap.length b7,ao) _ ⟨hHeld,(by(with_reducible repeat(first|apply rA|apply rN|apply rD));exact rM (rF (p:=⟨ah,1,none⟩) (rF (p:=⟨ah,0,none⟩) (rY au.out ag.out (by decide)) (fun _ hk=>hk.2) (.slice Aq_ ab.length cq_)) (fun _ hk=>hk.2) (.slice ai aa.length aj)) (fun _ hk=>⟨hk.1.1,hk.1.2⟩)),(by(with_reducible repeat(first|apply Kd.Q_alloc|apply Kd.Q_drewN|apply Kd.Q_drew));exact Kd.Q_mono (Kd.Q_far (p:=⟨ah,1,none⟩) (Kd.Q_far (p:=⟨ah,0,none⟩) (Kd.Q_types ae.out ag.out (by decide)) (fun _ hk=>hk.2) (.slice Aq_ ab.length cq_)) (fun _ hk=>hk.2) (.slice ai aa.length aj)) (fun _ hk=>⟨hk.1.1,hk.1.2⟩)),(by(with_reducible repeat(first|apply rA|apply rN|apply rD));exact rM (rF (p:=⟨ah,1,none⟩) (rF (p:=⟨ah,0,none⟩) (rY ac.out ag.out (by decide)) (fun _ hk=>hk.2) (.slice Aq_ ab.length cq_)) (fun _ hk=>hk.2) (.slice ai aa.length aj)) (fun _ hk=>⟨hk.1.1,hk.1.2⟩)),(by(with_reducible repeat(first|apply sA|apply sN|apply sD));exact sM (Kd.S_far (p:=⟨ah,1,none⟩) (Kd.S_far (p:=⟨ah,0,none⟩) (Kd.S_types am.out ag.out (by decide)) (fun _ hk=>hk.2) (.slice Aq_ ab.length cq_)) (fun _ hk=>hk.2) (.slice ai aa.length aj)) (fun _ hk=>⟨hk.1.1,⟨hk.1.2.1,hk.1.2.2⟩⟩)),⟨_,rfl⟩,(by refine zbp (cs := #[.slice Aq_ ab.length cq_,.slice none 0 0]) ?_ 1 _ rfl;refine zbp (cs := #[.slice none 0 0,.slice none 0 0]) ?_ 0 _ rfl;exact zK_ ag),(by refine zbf ?_ _ (hp:=by exact al.out);refine zbf ?_ _ (hp:=by exact al.out);exact zK_ af),(zIs HI0),(zKp HK),(zBw HB)⟩)
        rintro⟨ar,ao⟩ w59 ⟨hS_,h0_,h1_,h2_,h3_,h4_,h5_,h6_,h7_,h8_,h9_⟩
        have au:Aside0 (Kd.R (Kd.int .i64) 3 w59 w.heap.size (fun k_=>nL k_ Aq_ ab cq_∧nL k_ ai aa aj) ar ap):=⟨h0_⟩
        replace ae:Aside0 (Kd.Q (Kd.int .i64) 3 w59 w.heap.size (fun k_=>nO k_ ar∧nL k_ ai aa aj) (.slice Aq_ ab.length cq_) ab):=⟨h1_⟩
        replace ac:Aside0 (Kd.R (Kd.int .i64) 3 w59 w.heap.size (fun k_=>nO k_ ar∧nL k_ Aq_ ab cq_) (.slice ai aa.length aj) aa):=⟨h2_⟩
        replace am:Aside0 (Kd.S (Kd.slice 3 (Kd.int .i64)) 23 w59 w.heap.size (fun k_=>nO k_ ar∧nL k_ Aq_ ab cq_∧nL k_ ai aa aj) u7 aA):=⟨h3_⟩
        have HA_HO371:Aside0 (∃ c_,(ar:Value) = .slice (some ao) ap.length c_):=⟨h4_⟩
        replace ag:Aside0 (w59.heap[ah]? = some (.cells #[.slice Aq_ ab.length cq_,.slice ai aa.length aj] 25 (0,0))):=⟨h5_⟩
        replace af:Aside0 (w59.heap[ak]? = some (.cells #[.slice Aq_ ab.length cq_,.slice ai aa.length aj] 25 (0,0))):=⟨h6_⟩
        replace HI0:Aside0 (IsS82 w0 w59 g s0_0 aN):=⟨h7_⟩
        replace HK:Aside0 (KeepBut w w59 g none):=⟨h8_⟩
        replace HB:Aside0 (Below w0.heap.size w0 w59):=⟨h9_⟩
        clear h0_ h1_ h2_ h3_ h4_ h5_ h6_ h7_ h8_ h9_
        have hHeld:w59.cell? ⟨ak,0,none⟩=some (.slice Aq_ ab.length cq_)∧w59.cell? ⟨ak,1,none⟩=some (.slice ai aa.length aj):=hS_
        obtain⟨cR,cl⟩:=HA_HO371.out;clear HA_HO371;subst cl
        refine norm_ (a' := ?_) ?_ ?_
        rotate_left
        ·simp only [putAll,Act.put,List.setIfInBounds_toArray,List.set_cons_zero,List.set_cons_succ]
         rfl
        refine zP 10 (some 3) (bs 12 2047) ?_
        refine zP 11 (some 4) (bs 12 4095) ?_
        refine done_ (done_of HT_.out (by kernel_rfl)) ?_
        try go_wp2
        refine bodyPost_ret (results_ctt rfl _ _ ah 25 #[.slice Aq_ ab.length cq_,.slice ai aa.length aj] (0,0) _ rfl (zK_ ag) Try.underlying25 rfl (by kernel_rfl)) rfl ?_
        exact⟨_,_,_,by first|rfl|(simp [*] <;> rfl),zmQ ae (fun _ hk=>hk.2),zmR ac (fun _ hk=>hk.2),zmS am (fun _ hk=>⟨hk.2.1,hk.2.2⟩),zIs HI0,zBw HB,zKp HK⟩
       rw [if_neg bM] at H
       have dc:(aV == 0)=false:=beq_eq_false_iff_ne.mpr bM
       have dd:(aV != 0)=true:=bne_iff_ne.mpr bM
       by_cases bO:aV=1
       ·rw [if_pos bO] at H
        have dh:(aV == 1)=true:=beq_iff_eq.mpr bO
        have di:(aV != 1)=false:=bne_eq_false_iff_eq.mpr bO
        clear bO;obtain⟨bP,ew,H⟩:=zbind H
        have dt:=zpc H;replace H:=zph H
        have dj:=A0_ dt;clear dt
        obtain⟨dJ,b9⟩ : ∃ y_:List (List Int),y_=(aA ++ [bP]):=⟨_,rfl⟩
        replace H:(some (ab,aa,av,dJ,aJ))=some (r1,r2,r3,r4,r5):=zH b9 H
        have dk:=A0_ b9;clear b9;simp only [Option.some.injEq,Prod.mk.injEq] at H;obtain⟨rfl,rfl,rfl,rfl,rfl⟩:=H;have eT:=al.out;have eU:=an.out;have eV:=ax.out;have eW:=aw.out;have d6:=zc0 af;have d7:=zc1 af;have d8:=kF af.out 0;have d9:=kF af.out 1;obtain⟨a5,a6,dK⟩:=rS ac.out;subst dK
        try go_wp2_with (first|((with_reducible refine gC (f:=74) rfl ?_);refine zJ (some 44) Try.func74 #[.pointer (some ⟨g,0,none⟩),.int .i64 40] ?_;(with_reducible refine(s1a_.calls k3 g s0_0 aq 40 aV aJ w0 _ ?ay ?az cQ.out).mono ?_);(case ay=>repeat(first|(with_reducible first|exact HI0.out|apply IsS82.alloc|apply IsS82.drewN|apply IsS82.drew|apply IsS82.set_1|refine IsS82.far ?_ aD.out _|refine IsS82.far ?_ aw.out _)|exact HI0.out));(case az=>repeat(first|(with_reducible first|exact HB.out|apply bA|apply bN|apply bD|refine bS ?_ (IsS82.ge HI0.out)|refine bS ?_ aK.out|refine bS ?_ aY.out)|exact HB.out));rintro e w68 ⟨rfl,hi,hb,hk⟩;refine⟨_,rfl,?_⟩;replace am:=A0_ (sM (Kd.S_keep (IsS82.apartS (show IsS82 w0 _ g s0_0 aq from zIs HI0) (zS_ am) (by decide)) hk (fun _ h=>h.2)) (fun _ h=>h.1));replace ae:=A0_ (Kd.Q_mono (Kd.Q_keep (IsS82.apartQ (show IsS82 w0 _ g s0_0 aq from zIs HI0) (zQ_ ae) (by decide)) hk (fun _ h=>h.2)) (fun _ h=>h.1));replace ac:=A0_ (rM (Kd.R_keep (IsS82.apart (show IsS82 w0 _ g s0_0 aq from zIs HI0) (zR_ ac) (by decide)) hk (fun _ h=>h.2)) (fun _ h=>h.1));replace ag:=A0_ (KeepBut.blk hk (g':=ah) (o := .cells #[.slice none 0 0,.slice none 0 0] 25 (0,0)) (zK_ ag) aE.out (by simp));replace af:=A0_ (KeepBut.blk hk (g':=ak) (o := .cells #[u346000,.slice a5 aa.length a6] 25 (0,0)) (zK_ af) ax.out (by simp));replace HK:=A0_ (KeepBut.trans (zKp HK) hk (.inl rfl));replace HB:=A0_ (hb);replace HI0:=A0_ (hi);(try clear hb)))
        replace am:=A0_ (sD am.out)
        replace ae:=A0_ (Kd.Q_drew ae.out)
        replace ac:=A0_ (rD ac.out)
        replace ag:=A0_ (kD ag.out)
        replace af:=A0_ (kD af.out)
        replace HI0:=A0_ (IsS82.drew HI0.out)
        replace HK:=A0_ (keep_drew HK.out)
        replace HB:=A0_ (bD HB.out)
        refine start_ (n:=10) (S:=fun w'=>w'.cell? ⟨ak,0,none⟩=some (u346000)∧w'.cell? ⟨ak,1,none⟩=some (.slice a5 aa.length a6)) (ds := []) (bs 10 0) (by kernel_rfl) rfl rfl ⟨(kC af.out 0).trans rfl,(kC af.out 1).trans rfl⟩ (fun hHeld => ?_);refine with_tabW s1i_.tab15 s1i_.bits15 (fun HT_ HW_ => ?_)
        generalize w68.drew=w69 at am ae ac ag af HI0 HK HB hHeld ⊢
        refine zP 1 (some 59) (bs 10 2) ?_
        refine zP 2 (some 60) (bs 10 6) ?_
        refine zP 3 (some 61) (bs 10 14) ?_
        refine zT 0 (some 58) (bs 10 15) hHeld ?_
        refine one_ (i:=4) (N:=some 62) (bs 10 31) rfl rfl (one_of HT_.out (by kernel_rfl)) (by decide) (fun K hK => ?_)
        refine zg Try.func79 #[.int .i64 av] ?_
        with_reducible refine(s15_.calls k3 av bP _ ew.out).mono ?_
        rintro e w70 ⟨fk,rfl,aM,hb⟩
        refine⟨_,rfl,?_⟩
        replace am:=A0_ (Kd.S_elder' (zS_ am) (Kd.R_base aM) hb)
        have bE:=A0_ (rL (Kd.R_new' (Kd.R_new' aM (Kd.Q_lt (zQ_ ae))) (rX (zR_ ac))) (keep_size (w:=w) (g:=g) (row:=none) (zKp HK)))
        replace ae:=A0_ (Kd.Q_elder' (zQ_ ae) (Kd.R_base aM) hb)
        replace ac:=A0_ (Kd.R_elder' (zR_ ac) (Kd.R_base aM) hb)
        replace ag:=zK ag hb;replace af:=zK af hb
        replace HK:=A0_ (KeepBut.trans (zKp HK) (KeepBut.of_below hb g none) (.inl rfl))
        replace HB:=A0_ (bT (zBw HB) hb)
        replace HI0:=A0_ (IsS82.below (zIs HI0) hb)
        (try clear hb);(try clear hk);(try clear hi);(try clear aM);obtain⟨cS,cT,cU⟩:=rS bE.out
        (first|subst cU|(injection cU with f1_ f2_ f3_;have f4_:=f1_.symm;have f5_:=f3_.symm;clear f1_ f2_ f3_;subst f4_;subst f5_))
        refine hK.out _ _ ⟨(kC af.out 0).trans rfl,(kC af.out 1).trans rfl⟩ (fun hHeld => ?_)
        clear hK K
        refine zN (some 62) ?_
        refine one_ (i:=5) (N:=some 63) (bs 10 63) rfl rfl (one_of HT_.out (by kernel_rfl)) (by decide) (fun K hK => ?_)
        refine value_ (w1 := ?_) (v := ?_) (by rfl) rfl ?_ ?_
        rotate_left 2
        ·go_simp
         constructor
         ·rfl
         rfl
        refine hK.out _ _ ⟨(kC (kA af.out _) 0).trans rfl,(kC (kA af.out _) 1).trans rfl⟩ (fun hHeld => ?_)
        clear hK K
        refine zN (some 63) ?_
        refine one_ (i:=6) (N:=some 64) (bs 10 127) rfl rfl (one_of HT_.out (by kernel_rfl)) (by decide) (fun K hK => ?_)
        refine Kd.S_append_step (Kd.slice 3 (Kd.int .i64)) w.heap.size (by rfl) (.tmp 60) (.tmp 63) 26 23 (.slice none 0 0) 24 rfl Try.underlying26 info23 rfl (by decide) (by omega) u7 aA bP [.slice cS bP.length cT] (fun k_=>nO k_ u346000∧nL k_ a5 aa a6) (fun k_=>some k_=(.slice cS bP.length cT:Value).ownBlock) rfl rfl ?aP (fun k_ hk_=>((rM (ok':=fun k_=>((fun k_=>nO k_ u346000∧nL k_ a5 aa a6)) k_∧nO k_ u7) (Kd.R_apart' (bE.out) (Kd.S_typed am.out) (by decide)) (fun k_ hk=>⟨⟨hk.1.1.2,hk.1.2⟩,hk.2⟩))).1 k_ hk_.symm) ?aF ?aO (Below.refl _ _) ?aS ?aL ?_
        (case aP=>exact Kd.M_row (rM (Kd.R_tight rfl (rM (ok':=fun k_=>((fun k_=>nO k_ u346000∧nL k_ a5 aa a6)) k_∧nO k_ u7) (Kd.R_apart' (bE.out) (Kd.S_typed am.out) (by decide)) (fun k_ hk=>⟨⟨hk.1.1.2,hk.1.2⟩,hk.2⟩))) (fun _ h_=>h_)))
        (case aF=>exact(fun k_ hk=>⟨Kd.fresh' (Kd.Q_lt (zQ_ ae)) k_ hk,Kd.fresh' (rX (zR_ ac)) k_ hk⟩))
        (case aO=>exact(zmS am (fun k_ hk=>⟨⟨hk.1.1,hk.1.2⟩,fun e_=>hk.2 e_⟩)))
        (case aS=>exact(keep_size (w:=w) (g:=g) (row:=none) (zKp HK)))
        (case aL=>have:=dj.out;omega)
        intro fl w71 ho hb hg hat
        rw [← dk.out] at ho
        replace ae:=A0_ (Kd.Q_over' (zQ_ ae) (Kd.S_typed (zS_ am)) (by decide) hg)
        replace ac:=A0_ (Kd.R_over' (zR_ ac) (Kd.S_typed (zS_ am)) (by decide) hg)
        replace ag:=A0_ (blk_grown (g:=ah) (o := .cells #[.slice none 0 0,.slice none 0 0] 25 (0,0)) (zK_ ag) hg (Kd.S_ne am.out ag.out (by decide)))
        replace af:=A0_ (blk_grown (g:=ak) (o := .cells #[u346000,.slice a5 aa.length a6] 25 (0,0)) (zK_ af) hg (Kd.S_ne am.out af.out (by decide)))
        replace HB:=A0_ (below_weaken (zBw HB) HL.out hb)
        replace HI0:=A0_ (IsS82.grown (zIs HI0) hg (IsS82.own_neS HI0.out am.out (by decide)))
        replace HK:=A0_ (KeepBut.trans (zKp HK) (KeepBut.of_grown hg g) (Kd.S_base2 am.out))
        have dl:=A0_ (ho)
        clear am bE ho hb hg hat;obtain⟨bQ,bR,cV,_⟩:=Kd.Q_slice ae.out
        (first|subst cV|(injection cV with f1_ f2_ f3_;have f4_:=f1_.symm;have f5_:=f3_.symm;clear f1_ f2_ f3_;subst f4_;subst f5_))
        refine hK.out _ _ ⟨(kC af.out 0).trans rfl,(kC af.out 1).trans rfl⟩ (fun hHeld => ?_)
        clear hK K
        refine zN (some 64) ?_
        refine one_ (i:=7) (N:=none) (bs 10 255) rfl rfl (one_of HT_.out (by kernel_rfl)) (by decide) (fun K hK => ?_)
        have fm:w71.cell? ⟨ah,0,none⟩=some (.slice none 0 0):=(kC ag.out 0).trans rfl
        have eX:=kF ag.out 0;have ea:=al.out;have eb:=an.out
        have fo:w71.cell? ⟨ah,1,none⟩=some (.slice none 0 0):=(kC ag.out 1).trans rfl
        have eY:=kF ag.out 1;have ec:=al.out;have ed:=an.out
        refine skip_ (w1 := ?_) (by rfl) rfl ?_ ?_
        rotate_left
        ·go_simp
         rfl
        refine hK.out _ _ ⟨((cell_far (p:=⟨ah,_,none⟩) al.out _).trans (((cell_far (p:=⟨ah,_,none⟩) al.out _).trans (hHeld.1)))),((cell_far (p:=⟨ah,_,none⟩) al.out _).trans (((cell_far (p:=⟨ah,_,none⟩) al.out _).trans (hHeld.2))))⟩ (fun hHeld => ?_)
        clear hK K
        refine zP 8 (some 3) (bs 10 511) ?_
        refine zP 9 (some 4) (bs 10 1023) ?_
        refine done_ (done_of HT_.out (by kernel_rfl)) ?_
        try go_wp2
        refine bodyPost_ret (results_ctt rfl _ _ ah 25 #[.slice bQ ab.length bR,.slice a5 aa.length a6] (0,0) _ rfl (by refine zbp (cs := #[.slice bQ ab.length bR,.slice none 0 0]) ?_ 1 _ rfl;refine zbp (cs := #[.slice none 0 0,.slice none 0 0]) ?_ 0 _ rfl;exact zK_ ag) Try.underlying25 rfl (by kernel_rfl)) rfl ?_
        exact⟨_,_,_,by first|rfl|(simp [*] <;> rfl),by(with_reducible repeat(first|apply Kd.Q_alloc|apply Kd.Q_drewN|apply Kd.Q_drew));exact Kd.Q_mono (Kd.Q_far (p:=⟨ah,1,none⟩) (Kd.Q_far (p:=⟨ah,0,none⟩) (Kd.Q_types ae.out ag.out (by decide)) (fun _ hk=>hk.2) (.slice bQ ab.length bR)) (fun _ hk=>hk.2) (.slice a5 aa.length a6)) (fun _ hk=>hk.1.1),by(with_reducible repeat(first|apply rA|apply rN|apply rD));exact rM (rF (p:=⟨ah,1,none⟩) (rF (p:=⟨ah,0,none⟩) (rY ac.out ag.out (by decide)) (fun _ hk=>hk.2) (.slice bQ ab.length bR)) (fun _ hk=>hk.2) (.slice a5 aa.length a6)) (fun _ hk=>hk.1.1),by(with_reducible repeat(first|apply sA|apply sN|apply sD));exact sM (Kd.S_far (p:=⟨ah,1,none⟩) (Kd.S_far (p:=⟨ah,0,none⟩) (Kd.S_types dl.out ag.out (by decide)) (fun _ hk=>hk.2) (.slice bQ ab.length bR)) (fun _ hk=>hk.2) (.slice a5 aa.length a6)) (fun _ hk=>⟨hk.1.1,hk.1.2⟩),zIs HI0,zBw HB,zKp HK⟩
       rw [if_neg bO] at H
       have dh:(aV == 1)=false:=beq_eq_false_iff_ne.mpr bO
       have di:(aV != 1)=true:=bne_iff_ne.mpr bO
       simp only [Option.some.injEq,Prod.mk.injEq] at H;obtain⟨rfl,rfl,rfl,rfl,rfl⟩:=H;have eZ:=al.out;have e2:=an.out;have e3:=ax.out;have e4:=aw.out;have ee:=zc0 af;have ef:=zc1 af;have eg:=kF af.out 0;have eh:=kF af.out 1;obtain⟨bU,bV,dL⟩:=rS ac.out;subst dL
       go_wp2_with (first|((with_reducible refine gC (f:=74) rfl ?_);refine zJ (some 44) Try.func74 #[.pointer (some ⟨g,0,none⟩),.int .i64 40] ?_;(with_reducible refine(s1a_.calls k3 g s0_0 aq 40 aV aJ w0 _ ?ay ?az cQ.out).mono ?_);(case ay=>repeat(first|(with_reducible first|exact HI0.out|apply IsS82.alloc|apply IsS82.drewN|apply IsS82.drew|apply IsS82.set_1|refine IsS82.far ?_ aD.out _|refine IsS82.far ?_ aw.out _)|exact HI0.out));(case az=>repeat(first|(with_reducible first|exact HB.out|apply bA|apply bN|apply bD|refine bS ?_ (IsS82.ge HI0.out)|refine bS ?_ aK.out|refine bS ?_ aY.out)|exact HB.out));rintro e w80 ⟨rfl,hi,hb,hk⟩;refine⟨_,rfl,?_⟩;replace am:=A0_ (sM (Kd.S_keep (IsS82.apartS (show IsS82 w0 _ g s0_0 aq from zIs HI0) (zS_ am) (by decide)) hk (fun _ h=>h.2)) (fun _ h=>h.1));replace ae:=A0_ (Kd.Q_mono (Kd.Q_keep (IsS82.apartQ (show IsS82 w0 _ g s0_0 aq from zIs HI0) (zQ_ ae) (by decide)) hk (fun _ h=>h.2)) (fun _ h=>h.1));replace ac:=A0_ (rM (Kd.R_keep (IsS82.apart (show IsS82 w0 _ g s0_0 aq from zIs HI0) (zR_ ac) (by decide)) hk (fun _ h=>h.2)) (fun _ h=>h.1));replace ag:=A0_ (KeepBut.blk hk (g':=ah) (o := .cells #[.slice none 0 0,.slice none 0 0] 25 (0,0)) (zK_ ag) aE.out (by simp));replace af:=A0_ (KeepBut.blk hk (g':=ak) (o := .cells #[u346000,.slice bU aa.length bV] 25 (0,0)) (zK_ af) ax.out (by simp));replace HK:=A0_ (KeepBut.trans (zKp HK) hk (.inl rfl));replace HB:=A0_ (hb);replace HI0:=A0_ (hi);(try clear hb);have ei:=zc0 af;have ej:=zc1 af;have ek:=kF af.out 0;have el:=kF af.out 1;obtain⟨bW,bX,dM,_⟩:=Kd.Q_slice ae.out;subst dM;have e5:=aE.out;have e6:=aD.out;have em:=zc0 ag;have en:=zc1 ag;have eo:=kF ag.out 0;have ep:=kF ag.out 1))
       refine bodyPost_ret (results_ctt rfl _ _ ah 25 #[.slice bW ab.length bX,.slice bU aa.length bV] (0,0) _ rfl (by refine zbp (cs := #[.slice bW ab.length bX,.slice none 0 0]) ?_ 1 _ rfl;refine zbp (cs := #[.slice none 0 0,.slice none 0 0]) ?_ 0 _ rfl;exact zK_ ag) Try.underlying25 rfl (by kernel_rfl)) rfl ?_
       exact⟨_,_,_,by first|rfl|(simp [*] <;> rfl),by(with_reducible repeat(first|apply Kd.Q_alloc|apply Kd.Q_drewN|apply Kd.Q_drew));exact Kd.Q_mono (Kd.Q_far (p:=⟨ah,1,none⟩) (Kd.Q_far (p:=⟨ah,0,none⟩) (Kd.Q_types ae.out ag.out (by decide)) (fun _ hk=>hk.2) (.slice bW ab.length bX)) (fun _ hk=>hk.2) (.slice bU aa.length bV)) (fun _ hk=>hk.1),zF ac ag (.slice bW ab.length bX) (.slice bU aa.length bV) 0 1,by(with_reducible repeat(first|apply sA|apply sN|apply sD));exact sM (Kd.S_far (p:=⟨ah,1,none⟩) (Kd.S_far (p:=⟨ah,0,none⟩) (Kd.S_types am.out ag.out (by decide)) (fun _ hk=>hk.2) (.slice bW ab.length bX)) (fun _ hk=>hk.2) (.slice bU aa.length bV)) (fun _ hk=>⟨hk.1.1,hk.1.2⟩),zIs HI0,zBw HB,zKp HK⟩
end Go.Proofs.Ytmegggomhjgehaa.PFnCoverConj
