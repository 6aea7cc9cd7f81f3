import Derived.Test.YtmegggomhjgehaaPFnCoverTreex13
namespace Go.Proofs.Ytmegggomhjgehaa.PFnCoverTree
open Go.RowKit Go.Proofs.YtmegggomhjgehaaW.PrintWords Go.Proofs.YtmegggomhjgehaaW.PrintLast Go.Proofs.YtmegggomhjgehaaW.PrintMore
set_option maxHeartbeats 8000000
set_option maxRecDepth 100000
attribute [local go_sem] max2_int min2_int max_two min_two max_three min_three max_four min_four
set_option linter.unusedVariables false
set_option linter.unusedSimpArgs false
mutual
def s1h_.j0:Nat→Int→Bool→List Int→Int→List Int→List Int→Option (List Int×List Int×Int×(List (List Int))×Int)
  | 0,_,_,_,_,_,_=>none
  | k+1,x5,ah,aa,ac,af,ag=>if ah=true then ((s1f_.f k aa ac 1).bind fun ab=>((s1a_.f k aa ab.2.2 6).bind fun ae=>(s1h_.j1 k (wrap64 (1+ae.1)) aa ae.2 ab.1 ab.2.1))) else (s1h_.j1 k x5 aa ac af ag)
def s1h_.j1:Nat→Int→List Int→Int→List Int→List Int→Option (List Int×List Int×Int×(List (List Int))×Int)
  | 0,_,_,_,_,_=>none
  | k+1,x5,ac,ae,aa,ab=>s1h_.l0 k x5 (([]:List (List Int))) 0 ac ae aa ab
def s1h_.l0:Nat→Int→List (List Int)→Int→List Int→Int→List Int→List Int→Option (List Int×List Int×Int×(List (List Int))×Int)
  | 0,_,_,_,_,_,_,_=>none
  | k+1,x5,x7,x8,ae,ag,ab,aa=>if x8<(wrap64 ((aa.length:Int) / 2)) then ((s1g_.f k ae ag x5).bind fun ah=>(if x7.length<5864062014805 then (s1h_.l0 k x5 (x7 ++ [ah.1]) (wrap64 (x8+1)) ae ah.2 ab aa) else (none))) else ((s1a_.f k ae ag 40).bind fun ac=>(if ac.1=0 then ((some (([0,7,wrap64 (x5+1)]:List Int):List Int)).bind fun ai=>((s1a_.f k ae ac.2 3).bind fun af=>(if 0≤af.1 then (if af.1<(ai.length:Int) then (some (ab,aa,rd ai af.1,x7,af.2)) else (none)) else (none)))) else (if ac.1=1 then ((s15_.f k x5).bind fun aj=>(if x7.length<5864062014805 then (some (ab,aa,x5,(x7 ++ [aj]),ac.2)) else (none))) else (some (ab,aa,x5,x7,ac.2)))))
end
def s1h_.f (k:Nat) (s0_0:List Int) (s0_1:Int):Option (List Int×List Int×Int×(List (List Int))×Int):=(s1a_.f k s0_0 s0_1 3).bind fun aa=>(if (wrap64 (1+aa.1))=0 then (none) else ((s1f_.f k s0_0 aa.2 (wrap64 (Int.tdiv 6 (wrap64 (1+aa.1))))).bind fun ab=>(if (wrap64 (1+aa.1))=1 then ((s1a_.f k s0_0 ab.2.2 2).bind fun ac=>(s1h_.j0 k (wrap64 (1+aa.1)) (ac.1 == 0) s0_0 ac.2 ab.1 ab.2.1)) else (s1h_.j0 k (wrap64 (1+aa.1)) false s0_0 ab.2.2 ab.1 ab.2.1))))
def s1h_.T13:Bool×List (List Nat×List Nat):=(true,[([],[]),([],[]),([1],[1]),([2],[2]),([],[]),([4],[4]),([3,5],[3,5]),([6],[6]),([],[]),([0,5,0],[0]),([7,9,0,1,2,3,4,5,6,7,9],[7]),([8,10,0,1,2,3,4,5,6,7,8,9,10],[8])])
def s1h_.B13:List Nat := [0,0,2,6,0,16,62,126,0,49,767,2047]
theorem s1h_.tab13:rtab .any (opsOf Try.f51 13)=s1h_.T13:=by kernel_rfl
theorem s1h_.bits13:waitsOk s1h_.T13.2 s1h_.B13=true:=by kernel_rfl
def s1h_.T15:Bool×List (List Nat×List Nat):=(true,[([],[]),([],[]),([],[]),([],[]),([3],[3]),([4],[4]),([2,5,4],[2,5]),([0,6,0],[0]),([1,7,0,1,7],[1]),([6,8,0,1,2,3,4,5,6,7,8],[6])])
def s1h_.B15:List Nat := [0,0,0,0,8,24,60,125,255,511]
theorem s1h_.tab15:rtab .any (opsOf Try.f51 15)=s1h_.T15:=by kernel_rfl
theorem s1h_.bits15:waitsOk s1h_.T15.2 s1h_.B15=true:=by kernel_rfl
theorem s1h_.calls (k:Nat) (g:Nat) (s0_0:List Int) (s0_1:Int) (r1:List Int) (r2:List Int) (r3:Int) (r4:List (List Int)) (r5:Int) (w0 w:World) (hI:IsS82 w0 w g s0_0 s0_1) (hB:Below w0.heap.size w0 w) (h:s1h_.f k s0_0 s0_1=some (r1,r2,r3,r4,r5)) :
    Calls Try.prog 51 #[.pointer (some ⟨g,0,none⟩)] w fun e w' => ∃ v0_ v1_ v3_:Value,e = .returned (.tuple #[.agg #[v0_,v1_],.int .i64 r3,v3_])∧Kd.Q (Kd.int .i64) 3 w' w.heap.size (fun k_=>some k_≠(v1_:Value).ownBlock) v0_ r1∧Kd.R (Kd.int .i64) 3 w' w.heap.size (fun k_=>some k_≠(v0_:Value).ownBlock) v1_ r2∧Kd.S (Kd.slice 3 (Kd.int .i64)) 23 w' w.heap.size (fun k_=>some k_≠(v0_:Value).ownBlock∧some k_≠(v1_:Value).ownBlock) v3_ r4∧IsS82 w0 w' g s0_0 r5∧Below w0.heap.size w0 w'∧KeepBut w w' g none:=by
 have e6:=Try.underlying25;have HI0:=A0_ hI
 have HK:=A0_ (KeepBut.refl w g none)
 have HL:=A0_ hB.size;clear hI;have HW0:=A0_ hB.size;have HB:=A0_ hB;clear hB
 have H:((s1a_.f k s0_0 s0_1 3).bind fun bd=>(if (wrap64 (1+bd.1))=0 then (none) else ((s1f_.f k s0_0 bd.2 (wrap64 (Int.tdiv 6 (wrap64 (1+bd.1))))).bind fun be=>(if (wrap64 (1+bd.1))=1 then ((s1a_.f k s0_0 be.2.2 2).bind fun cl=>(s1h_.j0 k (wrap64 (1+bd.1)) (cl.1 == 0) s0_0 cl.2 be.1 be.2.1)) else (s1h_.j0 k (wrap64 (1+bd.1)) false s0_0 be.2.2 be.1 be.2.1)))))=some (r1,r2,r3,r4,r5):=h
 clear h;obtain⟨⟨aQ,cC⟩,A2,H⟩:=zbind H;dsimp only at H
 have c3:=zqc H;replace H:=zqh H
 have b9:((wrap64 (1+aQ)) == 0)=false:=beq_eq_false_iff_ne.mpr c3
 have ca:((wrap64 (1+aQ)) != 0)=true:=bne_iff_ne.mpr c3
 obtain⟨⟨aG,aH,bf⟩,A4,H⟩:=zbind H;dsimp only at H;have cE:=A0_ H;clear H
 go_enter Try.func51,Try.ntmps51
 go_upto_region 3 with(first|((with_reducible refine gD (N:=2) rfl ?_);refine zX (N:=2) (cs := #[.slice none 0 0,.slice none 0 0]) (t:=25) ?_;intro ah hg w6 hbox hb;replace HB:=A0_ (bT (zBw HB) hb);have ag:=A0_ (hbox);have ew:=A0_ ((by rw [hg];exact(keep_size (w:=w) (g:=g) (row:=none) (zKp HK)):w.heap.size≤ah));have aK:=A0_ ((Nat.le_trans HW0.out (by rw [hg];exact(keep_size (w:=w) (g:=g) (row:=none) (zKp HK)):w.heap.size≤ah):w0.heap.size≤ah));replace HK:=A0_ (KeepBut.trans (zKp HK) (KeepBut.of_below hb g none) (.inl rfl));have aD:=A0_ ((by rw [hg];exact Nat.ne_of_lt (IsS82.lt (show IsS82 w0 _ g s0_0 s0_1 from zIs HI0)):g≠ah));have aE:=A0_ ((by rw [hg];exact Nat.ne_of_gt (IsS82.lt (show IsS82 w0 _ g s0_0 s0_1 from zIs HI0)):ah≠g));replace HI0:=A0_ (IsS82.below (zIs HI0) hb);clear hb hbox hg)|((with_reducible refine gC (f:=74) rfl ?_);refine zJ (some 10) Try.func74 #[.pointer (some ⟨g,0,none⟩),.int .i64 3] ?_;(with_reducible refine(s1a_.calls k g s0_0 s0_1 3 aQ cC w0 _ ?ay ?az A2.out).mono ?_);(case ay=>repeat(first|(with_reducible first|exact HI0.out|apply IsS82.alloc|apply IsS82.drewN|apply IsS82.drew|apply IsS82.set_1|refine IsS82.far ?_ aD.out _)|exact HI0.out));(case az=>repeat(first|(with_reducible first|exact HB.out|apply bA|apply bN|apply bD|refine bS ?_ (IsS82.ge HI0.out)|refine bS ?_ aK.out)|exact HB.out));rintro e w7 ⟨rfl,hi,hb,hk⟩;refine⟨_,rfl,?_⟩;replace ag:=A0_ (KeepBut.blk hk (g':=ah) (o := .cells #[.slice none 0 0,.slice none 0 0] 25 (0,0)) (zK_ ag) aE.out (by simp));replace HK:=A0_ (KeepBut.trans (zKp HK) hk (.inl rfl));replace HB:=A0_ (hb);replace HI0:=A0_ (hi);(try clear hb))|((with_reducible refine gC (f:=75) rfl ?_);refine zJ (some 15) Try.func75 #[.pointer (some ⟨g,0,none⟩),.int .i64 (wrap64 (Int.tdiv 6 (wrap64 (1+aQ))))] ?_;(with_reducible refine(s1f_.calls k g s0_0 cC (wrap64 (Int.tdiv 6 (wrap64 (1+aQ)))) aG aH bf w0 _ ?ay ?az A4.out).mono ?_);(case ay=>repeat(first|(with_reducible first|exact HI0.out|apply IsS82.alloc|apply IsS82.drewN|apply IsS82.drew|apply IsS82.set_1|refine IsS82.far ?_ aD.out _)|exact HI0.out));(case az=>repeat(first|(with_reducible first|exact HB.out|apply bA|apply bN|apply bD|refine bS ?_ (IsS82.ge HI0.out)|refine bS ?_ aK.out)|exact HB.out));rintro e w8 ⟨e7,e8,rfl,aM,bE,hi,hb,hk⟩;refine⟨_,rfl,?_⟩;replace ag:=A0_ (KeepBut.blk hk (g':=ah) (o := .cells #[.slice none 0 0,.slice none 0 0] 25 (0,0)) (zK_ ag) aE.out (by simp));have a6:=A0_ (Kd.Q_lower aM (keep_size (w:=w) (g:=g) (row:=none) (zKp HK)));have a7:=A0_ (rL bE (keep_size (w:=w) (g:=g) (row:=none) (zKp HK)));replace HK:=A0_ (KeepBut.trans (zKp HK) hk (.inl rfl));replace HB:=A0_ (hb);replace HI0:=A0_ (hi);(try clear hb);(try clear aM);(try clear bE))|((with_reducible refine gD (N:=6) rfl ?_);refine zX (N:=6) (cs := #[.slice none 0 0,.slice none 0 0]) (t:=25) ?_;intro ak hg w9 hbox hb;replace a6:=A0_ (Kd.Q_below (zQ_ a6) hb);replace a7:=zR a7 hb;replace HB:=A0_ (bT (zBw HB) hb);have af:=A0_ (hbox);have ex:=A0_ ((by rw [hg];exact(keep_size (w:=w) (g:=g) (row:=none) (zKp HK)):w.heap.size≤ak));have aY:=A0_ ((Nat.le_trans HW0.out (by rw [hg];exact(keep_size (w:=w) (g:=g) (row:=none) (zKp HK)):w.heap.size≤ak):w0.heap.size≤ak));replace HK:=A0_ (KeepBut.trans (zKp HK) (KeepBut.of_below hb g none) (.inl rfl));have an:=zL hg ag;have al:=zM hg ag;replace ag:=zK ag hb;have aw:=A0_ ((by rw [hg];exact Nat.ne_of_lt (IsS82.lt (show IsS82 w0 _ g s0_0 bf from zIs HI0)):g≠ak));have ax:=A0_ ((by rw [hg];exact Nat.ne_of_gt (IsS82.lt (show IsS82 w0 _ g s0_0 bf from zIs HI0)):ak≠g));replace HI0:=A0_ (IsS82.below (zIs HI0) hb);clear hb hbox hg;obtain⟨aT,aU,dt,_⟩:=Kd.Q_slice a6.out;subst dt;have ey:=al.out;have ez:=an.out;have eA:=ax.out;have eB:=aw.out;have bj:=zc0 af;have bk:=zc1 af;have bl:=kF af.out 0;have bm:=kF af.out 1;obtain⟨aW,aX,du⟩:=rS a7.out;subst du))
 (try simp only [Act.put,List.setIfInBounds_toArray,List.set_cons_zero,List.set_cons_succ])
 go_cut [22] (fun v22 wc => ∃ (kq:Nat) (bv:Bool) (aI:Int),v22 = .bool bv∧Aside0 (s1h_.j0 kq (wrap64 (1+aQ)) bv s0_0 aI aG aH=some (r1,r2,r3,r4,r5))∧Aside0 (kq≤k)∧Aside0 (Kd.Q (Kd.int .i64) 3 wc w.heap.size (fun k_=>some k_≠((.slice aW aH.length aX):Value).ownBlock) (.slice aT aG.length aU) aG)∧Aside0 (Kd.R (Kd.int .i64) 3 wc w.heap.size (fun k_=>some k_≠((.slice aT aG.length aU):Value).ownBlock) (.slice aW aH.length aX) aH)∧Aside0 (wc.heap[ah]? = some (.cells #[(.slice none 0 0),(.slice none 0 0)] 25 (0,0)))∧Aside0 (wc.heap[ak]? = some (.cells #[(.slice aT aG.length aU),(.slice aW aH.length aX)] 25 (0,0)))∧Aside0 (IsS82 w0 wc g s0_0 aI)∧Aside0 (KeepBut w wc g none)∧Aside0 (Below w0.heap.size w0 wc))
 case first =>
  have H:=cE.out;clear cE
  by_cases bF:(wrap64 (1+aQ))=1
  ·rw [if_pos bF] at H
   have bi:((wrap64 (1+aQ)) == 1)=true:=beq_iff_eq.mpr bF
   have cV:((wrap64 (1+aQ)) != 1)=false:=bne_eq_false_iff_eq.mpr bF
   clear bF
   (first|rw [bi]|(simp only [i64_w,i32_w];rw [bi])|skip)
   obtain⟨⟨cF,cG⟩,ep,H⟩:=zbind H;dsimp only at H;have H':=A0_ H;clear H
   go_wp2_with (first|(go_at_call 74;(with_reducible refine(s1a_.calls k g s0_0 bf 2 cF cG w0 _ ?ay ?az ep.out).mono ?_);(case ay=>repeat(first|(with_reducible first|exact HI0.out|apply IsS82.alloc|apply IsS82.drewN|apply IsS82.drew|apply IsS82.set_1|refine IsS82.far ?_ aD.out _|refine IsS82.far ?_ aw.out _)|exact HI0.out));(case az=>repeat(first|(with_reducible first|exact HB.out|apply bA|apply bN|apply bD|refine bS ?_ (IsS82.ge HI0.out)|refine bS ?_ aK.out|refine bS ?_ aY.out)|exact HB.out));rintro e w17 ⟨rfl,hi,hb,hk⟩;replace ag:=A0_ (KeepBut.blk hk (g':=ah) (o := .cells #[.slice none 0 0,.slice none 0 0] 25 (0,0)) (by refine zbf ?_ _ (hp:=by exact an.out);refine zbf ?_ _ (hp:=by exact an.out);exact zK_ ag) aE.out (by simp));replace a6:=A0_ (Kd.Q_mono (Kd.Q_keep (IsS82.apartQ (show IsS82 w0 _ g s0_0 bf from zIs HI0) (by(with_reducible repeat(first|apply Kd.Q_alloc|apply Kd.Q_drewN|apply Kd.Q_drew));exact(Kd.Q_mono (Kd.Q_far (p:=⟨ak,1,none⟩) (Kd.Q_far (p:=⟨ak,0,none⟩) (Kd.Q_types a6.out af.out (by decide)) (fun _ hk=>hk.2) (.slice aT aG.length aU)) (fun _ hk=>hk.2) (.slice aW aH.length aX)) (fun _ h_=>h_.1))) (by decide)) hk (fun _ h=>h.2)) (fun _ h=>h.1));replace a7:=A0_ (rM (Kd.R_keep (IsS82.apart (show IsS82 w0 _ g s0_0 bf from zIs HI0) (zF a7 af (.slice aT aG.length aU) (.slice aW aH.length aX) 0 1) (by decide)) hk (fun _ h=>h.2)) (fun _ h=>h.1));replace af:=A0_ (KeepBut.blk hk (g':=ak) (o := .cells #[.slice aT aG.length aU,.slice aW aH.length aX] 25 (0,0)) (by refine zbp (cs := #[.slice aT aG.length aU,.slice none 0 0]) ?_ 1 _ rfl;refine zbp (cs := #[.slice none 0 0,.slice none 0 0]) ?_ 0 _ rfl;exact zK_ af) ax.out (by simp));replace HK:=A0_ (KeepBut.trans (zKp HK) hk (.inl rfl));replace HB:=A0_ (hb);replace HI0:=A0_ (hi);(try clear hb)))
   go_meet
   case rel=>exact⟨_,((cF == 0)),(cG),zt,H',zo,⟨zQ_ a6⟩,⟨zR_ a7⟩,⟨zK_ ag⟩,⟨zK_ af⟩,⟨zIs HI0⟩,⟨zKp HK⟩,⟨zBw HB⟩⟩
  rw [if_neg bF] at H
  have bi:((wrap64 (1+aQ)) == 1)=false:=beq_eq_false_iff_ne.mpr bF
  have cV:((wrap64 (1+aQ)) != 1)=true:=bne_iff_ne.mpr bF
  (first|rw [bi]|(simp only [i64_w,i32_w];rw [bi])|skip)
  have H':=A0_ H;clear H
  go_wp2
  go_meet
  case rel=>exact⟨_,(false),(bf),zt,H',zo,⟨by(with_reducible repeat(first|apply Kd.Q_alloc|apply Kd.Q_drewN|apply Kd.Q_drew));exact Kd.Q_mono (Kd.Q_far (p:=⟨ak,1,none⟩) (Kd.Q_far (p:=⟨ak,0,none⟩) (Kd.Q_types a6.out af.out (by decide)) (fun _ hk=>hk.2) (.slice aT aG.length aU)) (fun _ hk=>hk.2) (.slice aW aH.length aX)) (fun _ hk=>hk.1)⟩,⟨zF a7 af (.slice aT aG.length aU) (.slice aW aH.length aX) 0 1⟩,⟨by refine zbf ?_ _ (hp:=by exact an.out);refine zbf ?_ _ (hp:=by exact an.out);exact zK_ ag⟩,⟨by refine zbp (cs := #[.slice aT aG.length aU,.slice none 0 0]) ?_ 1 _ rfl;refine zbp (cs := #[.slice none 0 0,.slice none 0 0]) ?_ 0 _ rfl;exact zK_ af⟩,⟨zIs HI0⟩,⟨zKp HK⟩,⟨zBw HB⟩⟩
 case rest =>
  clear cE;(try clear c3);(try clear b9);(try clear ca);(try clear bj);(try clear bk);(try clear bl);(try clear bm);obtain⟨kq,bv,aI,rfl,HA,cm,ae,ac,ag,af,HI0,HK,HB⟩:=hcut
  cases kq with
  | zero=>exact absurd HA.out (by simp [s1h_.j0])
  | succ bG =>
   have H:=HA.out;clear HA;simp only [s1h_.j0] at H;have cb:=A0_ H;clear H
   go_upto_if 22 with(fail)
   go_cut [5] (fun v5 wc => ∃ (kq:Nat) (av:Int) (a3:Int) (ab:List Int) (aa:List Int) (u531000:Value) (u531001:Value),v5 = .int .i64 av∧Aside0 (s1h_.j1 kq av s0_0 a3 ab aa=some (r1,r2,r3,r4,r5))∧Aside0 (kq≤bG)∧Aside0 (Kd.Q (Kd.int .i64) 3 wc w.heap.size (fun k_=>some k_≠(u531001:Value).ownBlock) u531000 ab)∧Aside0 (Kd.R (Kd.int .i64) 3 wc w.heap.size (fun k_=>some k_≠(u531000:Value).ownBlock) u531001 aa)∧Aside0 (wc.heap[ah]? = some (.cells #[(.slice none 0 0),(.slice none 0 0)] 25 (0,0)))∧Aside0 (wc.heap[ak]? = some (.cells #[u531000,u531001] 25 (0,0)))∧Aside0 (IsS82 w0 wc g s0_0 a3)∧Aside0 (KeepBut w wc g none)∧Aside0 (Below w0.heap.size w0 wc))
   case first =>
    have H:=cb.out;clear cb
    by_cases cn:bv=true
    ·subst cn
     have H1:((s1f_.f bG s0_0 aI 1).bind fun b2=>((s1a_.f bG s0_0 b2.2.2 6).bind fun co=>(s1h_.j1 bG (wrap64 (1+co.1)) s0_0 co.2 b2.1 b2.2.1)))=some (r1,r2,r3,r4,r5):=by rw [if_pos rfl] at H;exact H
     clear H;have H:=H1;clear H1;obtain⟨⟨a8,a9,bn⟩,eq,H⟩:=zbind H;dsimp only at H;obtain⟨⟨cH,cI⟩,er,H⟩:=zbind H;dsimp only at H;have H':=A0_ H;clear H
     go_wp2_with (first|((with_reducible refine gC (f:=75) rfl ?_);refine zJ (some 24) Try.func75 #[.pointer (some ⟨g,0,none⟩),.int .i64 1] ?_;(with_reducible refine(s1f_.calls bG g s0_0 aI 1 a8 a9 bn w0 _ ?ay ?az eq.out).mono ?_);(case ay=>repeat(first|(with_reducible first|exact HI0.out|apply IsS82.alloc|apply IsS82.drewN|apply IsS82.drew|apply IsS82.set_1|refine IsS82.far ?_ aD.out _|refine IsS82.far ?_ aw.out _)|exact HI0.out));(case az=>repeat(first|(with_reducible first|exact HB.out|apply bA|apply bN|apply bD|refine bS ?_ (IsS82.ge HI0.out)|refine bS ?_ aK.out|refine bS ?_ aY.out)|exact HB.out));rintro e w22 ⟨e9,fa,rfl,aM,bE,hi,hb,hk⟩;refine⟨_,rfl,?_⟩;replace ag:=A0_ (KeepBut.blk hk (g':=ah) (o := .cells #[.slice none 0 0,.slice none 0 0] 25 (0,0)) (zK_ ag) aE.out (by simp));replace af:=A0_ (KeepBut.blk hk (g':=ak) (o := .cells #[.slice aT aG.length aU,.slice aW aH.length aX] 25 (0,0)) (zK_ af) ax.out (by simp));have bw:=A0_ (Kd.Q_lower (Kd.Q_new' (Kd.Q_new' aM (Kd.Q_lt (zQ_ ae))) (rX (zR_ ac))) (keep_size (w:=w) (g:=g) (row:=none) (zKp HK)));have bx:=A0_ (rL (Kd.R_new' (Kd.R_new' bE (Kd.Q_lt (zQ_ ae))) (rX (zR_ ac))) (keep_size (w:=w) (g:=g) (row:=none) (zKp HK)));replace ae:=A0_ (Kd.Q_mono (Kd.Q_told (Kd.Q_told (Kd.Q_oldK (IsS82.apartQ (show IsS82 w0 _ g s0_0 aI from zIs HI0) (zQ_ ae) (by decide)) hk) (Kd.Q_base aM)) (Kd.R_base bE)) (fun _ h_=>h_.1));replace ac:=A0_ (rM (rT (rT (Kd.R_oldK (IsS82.apart (show IsS82 w0 _ g s0_0 aI from zIs HI0) (zR_ ac) (by decide)) hk) (Kd.Q_base aM)) (Kd.R_base bE)) (fun _ h_=>h_.1));replace HK:=A0_ (KeepBut.trans (zKp HK) hk (.inl rfl));replace HB:=A0_ (hb);replace HI0:=A0_ (hi);(try clear hb);(try clear aM);(try clear bE);obtain⟨bg,bh,dv,_⟩:=Kd.Q_slice bw.out;subst dv;have eC:=al.out;have eD:=an.out;have eE:=ax.out;have eF:=aw.out;have dM:=zc0 af;have dN:=zc1 af;have dO:=kF af.out 0;have dP:=kF af.out 1;obtain⟨bo,bp,dw⟩:=rS bx.out;subst dw)|((with_reducible refine gC (f:=74) rfl ?_);refine zJ (some 26) Try.func74 #[.pointer (some ⟨g,0,none⟩),.int .i64 6] ?_;(with_reducible refine(s1a_.calls bG g s0_0 bn 6 cH cI w0 _ ?ay ?az er.out).mono ?_);(case ay=>repeat(first|(with_reducible first|exact HI0.out|apply IsS82.alloc|apply IsS82.drewN|apply IsS82.drew|apply IsS82.set_1|refine IsS82.far ?_ aD.out _|refine IsS82.far ?_ aw.out _)|exact HI0.out));(case az=>repeat(first|(with_reducible first|exact HB.out|apply bA|apply bN|apply bD|refine bS ?_ (IsS82.ge HI0.out)|refine bS ?_ aK.out|refine bS ?_ aY.out)|exact HB.out));rintro e w28 ⟨rfl,hi,hb,hk⟩;refine⟨_,rfl,?_⟩;replace ae:=A0_ (Kd.Q_mono (Kd.Q_keep (IsS82.apartQ (show IsS82 w0 _ g s0_0 bn from zIs HI0) (by(with_reducible repeat(first|apply Kd.Q_alloc|apply Kd.Q_drewN|apply Kd.Q_drew));exact(Kd.Q_mono (Kd.Q_far (p:=⟨ak,1,none⟩) (Kd.Q_far (p:=⟨ak,0,none⟩) (Kd.Q_types ae.out af.out (by decide)) (fun _ hk=>hk.2) (.slice bg a8.length bh)) (fun _ hk=>hk.2) (.slice bo a9.length bp)) (fun _ h_=>h_.1))) (by decide)) hk (fun _ h=>h.2)) (fun _ h=>h.1));replace ac:=A0_ (rM (Kd.R_keep (IsS82.apart (show IsS82 w0 _ g s0_0 bn from zIs HI0) (zF ac af (.slice bg a8.length bh) (.slice bo a9.length bp) 0 1) (by decide)) hk (fun _ h=>h.2)) (fun _ h=>h.1));replace ag:=A0_ (KeepBut.blk hk (g':=ah) (o := .cells #[.slice none 0 0,.slice none 0 0] 25 (0,0)) (by refine zbf ?_ _ (hp:=by exact an.out);refine zbf ?_ _ (hp:=by exact an.out);exact zK_ ag) aE.out (by simp));replace bw:=A0_ (Kd.Q_mono (Kd.Q_keep (IsS82.apartQ (show IsS82 w0 _ g s0_0 bn from zIs HI0) (by(with_reducible repeat(first|apply Kd.Q_alloc|apply Kd.Q_drewN|apply Kd.Q_drew));exact(Kd.Q_mono (Kd.Q_far (p:=⟨ak,1,none⟩) (Kd.Q_far (p:=⟨ak,0,none⟩) (Kd.Q_types bw.out af.out (by decide)) (fun _ hk=>hk.2) (.slice bg a8.length bh)) (fun _ hk=>hk.2) (.slice bo a9.length bp)) (fun _ h_=>h_.1))) (by decide)) hk (fun _ h=>h.2)) (fun _ h=>h.1));replace bx:=A0_ (rM (Kd.R_keep (IsS82.apart (show IsS82 w0 _ g s0_0 bn from zIs HI0) (zF bx af (.slice bg a8.length bh) (.slice bo a9.length bp) 0 1) (by decide)) hk (fun _ h=>h.2)) (fun _ h=>h.1));replace af:=A0_ (KeepBut.blk hk (g':=ak) (o := .cells #[.slice bg a8.length bh,.slice bo a9.length bp] 25 (0,0)) (by refine zbp (cs := #[.slice bg a8.length bh,.slice aW aH.length aX]) ?_ 1 _ rfl;refine zbp (cs := #[.slice aT aG.length aU,.slice aW aH.length aX]) ?_ 0 _ rfl;exact zK_ af) ax.out (by simp));replace HK:=A0_ (KeepBut.trans (zKp HK) hk (.inl rfl));replace HB:=A0_ (hb);replace HI0:=A0_ (hi);(try clear hb)))
     go_meet
     case rel=>exact⟨_,(wrap64 (1+cH)),(cI),(a8),(a9),(.slice bg a8.length bh),(.slice bo a9.length bp),zt,H',⟨by have:=cm.out;first|omega|exact Nat.le_refl _⟩,⟨zmQ bw (fun _ hk=>hk.1.1)⟩,⟨zmR bx (fun _ hk=>hk.1.1)⟩,⟨zK_ ag⟩,⟨zK_ af⟩,⟨zIs HI0⟩,⟨zKp HK⟩,⟨zBw HB⟩⟩
    replace cn:=Bool.eq_false_iff.mpr cn;subst cn
    have H1:(s1h_.j1 bG (wrap64 (1+aQ)) s0_0 aI aG aH)=some (r1,r2,r3,r4,r5):=by rw [if_neg (show ¬ (false=true) by decide)] at H;exact H
    clear H;have H:=H1;clear H1;have H':=A0_ H;clear H
    go_wp2
    go_meet
    case rel=>exact⟨_,((wrap64 (1+aQ))),(aI),(aG),(aH),(.slice aT aG.length aU),(.slice aW aH.length aX),zt,H',⟨by have:=cm.out;first|omega|exact Nat.le_refl _⟩,⟨zQ_ ae⟩,⟨zR_ ac⟩,⟨zK_ ag⟩,⟨zK_ af⟩,⟨zIs HI0⟩,⟨zKp HK⟩,⟨zBw HB⟩⟩
   case rest =>
    clear cb;(try clear c3);(try clear b9);(try clear ca);(try clear bj);(try clear bk);(try clear bl);(try clear bm);obtain⟨kq,av,a3,ab,aa,u531000,u531001,rfl,HA,cJ,ae,ac,ag,af,HI0,HK,HB⟩:=hcut
    cases kq with
    | zero=>exact absurd HA.out (by simp [s1h_.j1])
    | succ cc =>
     have H:=HA.out;clear HA;simp only [s1h_.j1] at H
     obtain⟨cK,b3⟩ : ∃ y_:List (List Int),y_=(([]:List (List Int))):=⟨_,rfl⟩
     replace H:(s1h_.l0 cc av cK 0 s0_0 a3 ab aa)=some (r1,r2,r3,r4,r5):=zH b3 H
     have cp:=A0_ b3;clear b3;have H':=A0_ H;clear H
     go_wp2_with (first|((with_reducible refine gD (N:=28) rfl ?_);refine Kd.S_lit (Kd.slice 3 (Kd.int .i64)) _ 23 ?hg (N:=28) ?hd (xs:=([]:List (List Int))) (inner := []) (ok:=fun _=>True) (okp:=fun _=>True) ?hr ?hp (fun _ hk=>hk) trivial (Below.refl _ _) (Nat.le_refl _) (by simp) ?_;(case hd=>rfl);(case hg=>rfl);(case hr=>first|(go_simp;done)|(go_simp;rfl));(case hp=>exact(Reps.none _ _));intro fb w29 bH hb hg_ hnew_;clear hg_ hnew_;(first|rw [← cp.out] at bH|(simp only [Int.reduceToNat] at bH;rw [← cp.out] at bH));have cW:=A0_ (Kd.S_lower (Kd.S_new' (Kd.S_new' bH (Kd.Q_lt (zQ_ ae))) (rX (zR_ ac))) (keep_size (w:=w) (g:=g) (row:=none) (zKp HK)));replace ae:=A0_ (Kd.Q_below (zQ_ ae) hb);replace ac:=zR ac hb;replace ag:=zK ag hb;replace af:=zK af hb;replace HK:=A0_ (KeepBut.trans (zKp HK) (KeepBut.of_below hb g none) (.inl rfl));replace HB:=A0_ (bT (zBw HB) hb);replace HI0:=A0_ (IsS82.below (zIs HI0) hb);clear hb bH))
     go_loopg [7,8] cc (fun kq v7 v8 w' => ∃ (aA:List (List Int)) (bq:Int) (aq:Int),v8 = .int .i64 bq∧Aside0 (s1h_.l0 kq av aA bq s0_0 aq ab aa=some (r1,r2,r3,r4,r5))∧Aside0 (kq≤cc)∧Aside0 (Kd.S (Kd.slice 3 (Kd.int .i64)) 23 w' w.heap.size (fun k_=>some k_≠(u531000:Value).ownBlock∧some k_≠(u531001:Value).ownBlock) v7 aA)∧Aside0 (Kd.Q (Kd.int .i64) 3 w' w.heap.size (fun k_=>some k_≠(u531001:Value).ownBlock) u531000 ab)∧Aside0 (Kd.R (Kd.int .i64) 3 w' w.heap.size (fun k_=>some k_≠(u531000:Value).ownBlock) u531001 aa)∧Aside0 (w'.heap[ah]? = some (.cells #[(.slice none 0 0),(.slice none 0 0)] 25 (0,0)))∧Aside0 (w'.heap[ak]? = some (.cells #[u531000,u531001] 25 (0,0)))∧Aside0 (IsS82 w0 w' g s0_0 aq)∧Aside0 (KeepBut w w' g none)∧Aside0 (Below w0.heap.size w0 w'))
     case atStart=>exact⟨(cK),(0),(a3),zt,H',⟨Nat.le_refl _⟩,⟨zmS cW (fun _ hk=>⟨hk.1.2,hk.2⟩)⟩,⟨zQ_ ae⟩,⟨zR_ ac⟩,⟨zK_ ag⟩,⟨zK_ af⟩,⟨zIs HI0⟩,⟨zKp HK⟩,⟨zBw HB⟩⟩
     case round =>
      clear H';(try clear c3);(try clear b9);(try clear ca);(try clear bj);(try clear bk);(try clear bl);(try clear bm);obtain⟨aA,bq,aq,rfl,HA,dl,am,ae,ac,ag,af,HI0,HK,HB⟩:=hrel
      cases gk with
      | zero=>exact absurd HA.out (by simp [s1h_.l0])
      | succ k3 =>
       have H:=HA.out;clear HA;simp only [s1h_.l0] at H
       by_cases bX:bq<(wrap64 ((aa.length:Int) / 2))
       ·rw [if_pos bX] at H
        have cX:=dT bX;clear bX;obtain⟨⟨bI,cd⟩,es,H⟩:=zbind H;dsimp only at H
        have dm:=zpc H;replace H:=zph H
        have cY:=A0_ dm;clear dm
        obtain⟨cL,b4⟩ : ∃ y_:List (List Int),y_=(aA ++ [bI]):=⟨_,rfl⟩
        replace H:(s1h_.l0 k3 av cL (wrap64 (bq+1)) s0_0 cd ab aa)=some (r1,r2,r3,r4,r5):=zH b4 H
        have cZ:=A0_ b4;clear b4;have H':=A0_ H;clear H;have eG:=al.out;have eH:=an.out;have eI:=ax.out;have eJ:=aw.out;have dQ:=zc0 af;have dR:=zc1 af;have dS:=kF af.out 0;have dU:=kF af.out 1;obtain⟨bJ,bK,dx⟩:=rS ac.out;subst dx
        go_wp2_with (first|((with_reducible refine gC (f:=87) rfl ?_);refine zJ (some 40) Try.func87 #[.pointer (some ⟨g,0,none⟩),.int .i64 av] ?_;(with_reducible refine(s1g_.calls k3 g s0_0 aq av bI cd w0 _ ?ay ?az es.out).mono ?_);(case ay=>repeat(first|(with_reducible first|exact HI0.out|apply IsS82.alloc|apply IsS82.drewN|apply IsS82.drew|apply IsS82.set_1|refine IsS82.far ?_ aD.out _|refine IsS82.far ?_ aw.out _)|exact HI0.out));(case az=>repeat(first|(with_reducible first|exact HB.out|apply bA|apply bN|apply bD|refine bS ?_ (IsS82.ge HI0.out)|refine bS ?_ aK.out|refine bS ?_ aY.out)|exact HB.out));rintro e w38 ⟨fc,rfl,aM,hi,hb,hk⟩;refine⟨_,rfl,?_⟩;replace am:=A0_ (sM (Kd.S_told (Kd.S_oldK (IsS82.apartS (show IsS82 w0 _ g s0_0 aq from zIs HI0) (zS_ am) (by decide)) hk) (Kd.R_base aM)) (fun _ h_=>h_.1));replace ag:=A0_ (KeepBut.blk hk (g':=ah) (o := .cells #[.slice none 0 0,.slice none 0 0] 25 (0,0)) (zK_ ag) aE.out (by simp));replace af:=A0_ (KeepBut.blk hk (g':=ak) (o := .cells #[u531000,.slice bJ aa.length bK] 25 (0,0)) (zK_ af) ax.out (by simp));have bz:=A0_ (rL (Kd.R_new' (Kd.R_new' aM (Kd.Q_lt (zQ_ ae))) (rX (zR_ ac))) (keep_size (w:=w) (g:=g) (row:=none) (zKp HK)));replace ae:=A0_ (Kd.Q_mono (Kd.Q_told (Kd.Q_oldK (IsS82.apartQ (show IsS82 w0 _ g s0_0 aq from zIs HI0) (zQ_ ae) (by decide)) hk) (Kd.R_base aM)) (fun _ h_=>h_.1));replace ac:=A0_ (rM (rT (Kd.R_oldK (IsS82.apart (show IsS82 w0 _ g s0_0 aq from zIs HI0) (zR_ ac) (by decide)) hk) (Kd.R_base aM)) (fun _ h_=>h_.1));replace HK:=A0_ (KeepBut.trans (zKp HK) hk (.inl rfl));replace HB:=A0_ (hb);replace HI0:=A0_ (hi);(try clear hb);(try clear aM);obtain⟨cM,cO,dy⟩:=rS bz.out;subst dy)|((with_reducible refine gB (b := .append) (xs := #[.tmp 37,.tmp 41]) rfl ?_);at_builtin;refine Kd.S_append (Kd.slice 3 (Kd.int .i64)) w.heap.size rfl (.tmp 37) (.tmp 41) 26 23 (.slice none 0 0) 24 rfl Try.underlying26 info23 rfl (by decide) (by omega) u7 aA bI [.slice cM bI.length cO] (fun k_=>some k_≠(u531000:Value).ownBlock∧some k_≠(.slice bJ aa.length bK:Value).ownBlock) (fun k_=>some k_=(.slice cM bI.length cO:Value).ownBlock) rfl rfl ?aP (fun k_ hk_=>((rM (ok':=fun k_=>((fun k_=>some k_≠(u531000:Value).ownBlock∧some k_≠(.slice bJ aa.length bK:Value).ownBlock)) k_∧some k_≠(u7:Value).ownBlock) (Kd.R_apart' (bz.out) (Kd.S_typed am.out) (by decide)) (fun k_ hk=>⟨⟨hk.1.1.2,hk.1.2⟩,hk.2⟩))).1 k_ hk_.symm) ?aF ?aO (Below.refl _ _) ?aS ?aL ?_;(case aP=>exact Kd.M_row (rM (Kd.R_tight rfl (rM (ok':=fun k_=>((fun k_=>some k_≠(u531000:Value).ownBlock∧some k_≠(.slice bJ aa.length bK:Value).ownBlock)) k_∧some k_≠(u7:Value).ownBlock) (Kd.R_apart' (bz.out) (Kd.S_typed am.out) (by decide)) (fun k_ hk=>⟨⟨hk.1.1.2,hk.1.2⟩,hk.2⟩))) (fun _ h_=>h_)));(case aF=>exact(fun k_ hk=>⟨Kd.fresh' (Kd.Q_lt (zQ_ ae)) k_ hk,Kd.fresh' (rX (zR_ ac)) k_ hk⟩));(case aO=>exact(zmS am (fun k_ hk=>⟨⟨hk.1.1,hk.1.2⟩,fun e_=>hk.2 e_⟩)));(case aS=>exact(keep_size (w:=w) (g:=g) (row:=none) (zKp HK)));(case aL=>have:=cY.out;omega);intro fd w39 ho hb hg hat;rw [← cZ.out] at ho;replace ae:=A0_ (Kd.Q_over' (zQ_ ae) (Kd.S_typed (zS_ am)) (by decide) hg);replace ac:=A0_ (Kd.R_over' (zR_ ac) (Kd.S_typed (zS_ am)) (by decide) hg);replace ag:=A0_ (blk_grown (g:=ah) (o := .cells #[.slice none 0 0,.slice none 0 0] 25 (0,0)) (zK_ ag) hg (Kd.S_ne am.out ag.out (by decide)));replace af:=A0_ (blk_grown (g:=ak) (o := .cells #[u531000,.slice bJ aa.length bK] 25 (0,0)) (zK_ af) hg (Kd.S_ne am.out af.out (by decide)));replace HB:=A0_ (below_weaken (zBw HB) HL.out hb);replace HI0:=A0_ (IsS82.grown (zIs HI0) hg (IsS82.own_neS HI0.out am.out (by decide)));replace HK:=A0_ (KeepBut.trans (zKp HK) (KeepBut.of_grown hg g) (Kd.S_base2 am.out));have da:=A0_ (ho);clear am bz ho hb hg hat))
        go_roundg k3
        case measure=>have:=cm.out;have:=cJ.out;have:=dl.out;omega
        case rel=>exact⟨(cL),(wrap64 (bq+1)),(cd),zt,H',⟨by have:=cm.out;have:=cJ.out;have:=dl.out;omega⟩,⟨zS_ da⟩,⟨zmQ ae (fun _ hk=>hk.1)⟩,⟨zmR ac (fun _ hk=>hk.1)⟩,⟨zK_ ag⟩,⟨zK_ af⟩,⟨zIs HI0⟩,⟨zKp HK⟩,⟨zBw HB⟩⟩
       rw [if_neg bX] at H;have cX:=dF bX;clear bX;obtain⟨⟨aV,aJ⟩,cP,H⟩:=zbind H;dsimp only at H
       by_cases bL:aV=0
       ·rw [if_pos bL] at H
        have db:(aV == 0)=true:=beq_iff_eq.mpr bL
        have dc:(aV != 0)=false:=bne_eq_false_iff_eq.mpr bL
        clear bL
        obtain⟨ap,b5⟩ : ∃ y_:List Int,y_=(([0,7,wrap64 (av+1)]:List Int)):=⟨_,rfl⟩
        replace H:((s1a_.f k3 s0_0 aJ 3).bind fun bB=>(if 0≤bB.1 then (if bB.1<(ap.length:Int) then (some (ab,aa,rd ap bB.1,aA,bB.2)) else (none)) else (none)))=some (r1,r2,r3,r4,r5):=zH b5 H
        have aZ:=A0_ b5;clear b5;obtain⟨⟨aC,aN⟩,dn,H⟩:=zbind H;dsimp only at H
        have dp:=zpc H;replace H:=zph H
        have eK:=dT dp;clear dp
        have dq:=zpc H;replace H:=zph H
        have eL:=dT dq;clear dq;simp only [Option.some.injEq,Prod.mk.injEq] at H;obtain⟨rfl,rfl,rfl,rfl,rfl⟩:=H;have eM:=al.out;have eN:=an.out;have eO:=ax.out;have eP:=aw.out;have dV:=zc0 af;have dW:=zc1 af;have dX:=kF af.out 0;have dY:=kF af.out 1;obtain⟨ai,aj,dz⟩:=rS ac.out;subst dz
        try go_wp2_with (first|((with_reducible refine gC (f:=74) rfl ?_);refine zJ (some 44) Try.func74 #[.pointer (some ⟨g,0,none⟩),.int .i64 40] ?_;(with_reducible refine(s1a_.calls k3 g s0_0 aq 40 aV aJ w0 _ ?ay ?az cP.out).mono ?_);(case ay=>repeat(first|(with_reducible first|exact HI0.out|apply IsS82.alloc|apply IsS82.drewN|apply IsS82.drew|apply IsS82.set_1|refine IsS82.far ?_ aD.out _|refine IsS82.far ?_ aw.out _)|exact HI0.out));(case az=>repeat(first|(with_reducible first|exact HB.out|apply bA|apply bN|apply bD|refine bS ?_ (IsS82.ge HI0.out)|refine bS ?_ aK.out|refine bS ?_ aY.out)|exact HB.out));rintro e w50 ⟨rfl,hi,hb,hk⟩;refine⟨_,rfl,?_⟩;replace am:=A0_ (sM (Kd.S_keep (IsS82.apartS (show IsS82 w0 _ g s0_0 aq from zIs HI0) (zS_ am) (by decide)) hk (fun _ h=>h.2)) (fun _ h=>h.1));replace ae:=A0_ (Kd.Q_mono (Kd.Q_keep (IsS82.apartQ (show IsS82 w0 _ g s0_0 aq from zIs HI0) (zQ_ ae) (by decide)) hk (fun _ h=>h.2)) (fun _ h=>h.1));replace ac:=A0_ (rM (Kd.R_keep (IsS82.apart (show IsS82 w0 _ g s0_0 aq from zIs HI0) (zR_ ac) (by decide)) hk (fun _ h=>h.2)) (fun _ h=>h.1));replace ag:=A0_ (KeepBut.blk hk (g':=ah) (o := .cells #[.slice none 0 0,.slice none 0 0] 25 (0,0)) (zK_ ag) aE.out (by simp));replace af:=A0_ (KeepBut.blk hk (g':=ak) (o := .cells #[u531000,.slice ai aa.length aj] 25 (0,0)) (zK_ af) ax.out (by simp));replace HK:=A0_ (KeepBut.trans (zKp HK) hk (.inl rfl));replace HB:=A0_ (hb);replace HI0:=A0_ (hi);(try clear hb)))
        have pi559:(0≤(aC:Int))=True:=eq_true (zd)
        have qi559:(aC<(ap.length:Int))=True:=eq_true (zd)
        replace am:=A0_ (sD am.out)
        replace ae:=A0_ (Kd.Q_drew ae.out)
        replace ac:=A0_ (rD ac.out)
        replace ag:=A0_ (kD ag.out)
        replace af:=A0_ (kD af.out)
        replace HI0:=A0_ (IsS82.drew HI0.out)
        replace HK:=A0_ (keep_drew HK.out)
        replace HB:=A0_ (bD HB.out)
        obtain⟨Aq_,cq_,eq_,_⟩:=Kd.Q_slice ae.out
        subst eq_
        refine start_ (n:=12) (S:=fun w'=>w'.cell? ⟨ak,0,none⟩=some (.slice Aq_ ab.length cq_)∧w'.cell? ⟨ak,1,none⟩=some (.slice ai aa.length aj)) (ds := []) (bs 12 0) (by kernel_rfl) rfl rfl ⟨(kC af.out 0).trans rfl,(kC af.out 1).trans rfl⟩ (fun hHeld => ?_);refine with_tabW s1h_.tab13 s1h_.bits13 (fun HT_ HW_ => ?_)
        generalize w50.drew=w51 at am ae ac ag af HI0 HK HB hHeld ⊢
        refine zP 1 (some 48) (bs 12 2) ?_
        refine zP 2 (some 49) (bs 12 6) ?_
        refine zP 4 (some 51) (bs 12 22) ?_
        refine zP 8 (some 55) (bs 12 278) ?_
        refine zT 0 (some 47) (bs 12 279) hHeld ?_
        refine join_ (σ:=Value×Addr) 2 (bs 12 1023) (fun s_ => [(50,s_.1),(52,.int .i64 aC),(54,.int .i64 (rd ap aC)),(53,.pointer (some (s_.2.add (aC).toNat)))]) (fun s_ w'=>(w'.cell? ⟨ak,0,none⟩=some (.slice Aq_ ab.length cq_)∧w'.cell? ⟨ak,1,none⟩=some (.slice ai aa.length aj))∧(Kd.R (Kd.int .i64) 3 w' w.heap.size (fun k_=>some k_≠(.slice Aq_ ab.length cq_:Value).ownBlock∧some k_≠(.slice ai aa.length aj:Value).ownBlock) s_.1 ap)∧(Kd.Q (Kd.int .i64) 3 w' w.heap.size (fun k_=>some k_≠(s_.1:Value).ownBlock∧some k_≠(.slice ai aa.length aj:Value).ownBlock) (.slice Aq_ ab.length cq_) ab)∧(Kd.R (Kd.int .i64) 3 w' w.heap.size (fun k_=>some k_≠(s_.1:Value).ownBlock∧some k_≠(.slice Aq_ ab.length cq_:Value).ownBlock) (.slice ai aa.length aj) aa)∧(Kd.S (Kd.slice 3 (Kd.int .i64)) 23 w' w.heap.size (fun k_=>some k_≠(s_.1:Value).ownBlock∧some k_≠(.slice Aq_ ab.length cq_:Value).ownBlock∧some k_≠(.slice ai aa.length aj:Value).ownBlock) u7 aA)∧(∃ c_,(s_.1:Value) = .slice (some s_.2) ap.length c_)∧(w'.heap[ah]? = some (.cells #[.slice Aq_ ab.length cq_,.slice ai aa.length aj] 25 (0,0)))∧(w'.heap[ak]? = some (.cells #[.slice Aq_ ab.length cq_,.slice ai aa.length aj] 25 (0,0)))∧(IsS82 w0 w' g s0_0 aN)∧(KeepBut w w' g none)∧(Below w0.heap.size w0 w')) ?_ ?_
        rotate_left
        ·intro bu
         refine join_ (σ:=Value×Addr) 3 (bs 12 511) (fun s_ => [(50,s_.1),(52,.int .i64 aC),(54,.int .i64 (rd ap aC)),(53,.pointer (some (s_.2.add (aC).toNat)))]) (fun s_ w'=>(w'.cell? ⟨ak,0,none⟩=some (.slice Aq_ ab.length cq_)∧w'.cell? ⟨ak,1,none⟩=some (.slice ai aa.length aj))∧(Kd.R (Kd.int .i64) 3 w' w.heap.size (fun k_=>some k_≠(.slice Aq_ ab.length cq_:Value).ownBlock∧some k_≠(.slice ai aa.length aj:Value).ownBlock) s_.1 ap)∧(Kd.Q (Kd.int .i64) 3 w' w.heap.size (fun k_=>some k_≠(s_.1:Value).ownBlock∧some k_≠(.slice ai aa.length aj:Value).ownBlock) (.slice Aq_ ab.length cq_) ab)∧(Kd.R (Kd.int .i64) 3 w' w.heap.size (fun k_=>some k_≠(s_.1:Value).ownBlock∧some k_≠(.slice Aq_ ab.length cq_:Value).ownBlock) (.slice ai aa.length aj) aa)∧(Kd.S (Kd.slice 3 (Kd.int .i64)) 23 w' w.heap.size (fun k_=>some k_≠(s_.1:Value).ownBlock∧some k_≠(.slice Aq_ ab.length cq_:Value).ownBlock∧some k_≠(.slice ai aa.length aj:Value).ownBlock) u7 aA)∧(∃ c_,(s_.1:Value) = .slice (some s_.2) ap.length c_)∧(w'.heap[ah]? = some (.cells #[.slice none 0 0,.slice none 0 0] 25 (0,0)))∧(w'.heap[ak]? = some (.cells #[.slice Aq_ ab.length cq_,.slice ai aa.length aj] 25 (0,0)))∧(IsS82 w0 w' g s0_0 aN)∧(KeepBut w w' g none)∧(Below w0.heap.size w0 w')) ?_ ?_
         rotate_left
         ·intro cv
          refine join_ (σ:=Value×Addr) 3 (bs 12 895) (fun s_ => [(50,s_.1),(52,.int .i64 aC),(53,.pointer (some (s_.2.add (aC).toNat)))]) (fun s_ w'=>(w'.cell? ⟨ak,0,none⟩=some (.slice Aq_ ab.length cq_)∧w'.cell? ⟨ak,1,none⟩=some (.slice ai aa.length aj))∧(Kd.R (Kd.int .i64) 3 w' w.heap.size (fun k_=>some k_≠(.slice Aq_ ab.length cq_:Value).ownBlock∧some k_≠(.slice ai aa.length aj:Value).ownBlock) s_.1 ap)∧(Kd.Q (Kd.int .i64) 3 w' w.heap.size (fun k_=>some k_≠(s_.1:Value).ownBlock∧some k_≠(.slice ai aa.length aj:Value).ownBlock) (.slice Aq_ ab.length cq_) ab)∧(Kd.R (Kd.int .i64) 3 w' w.heap.size (fun k_=>some k_≠(s_.1:Value).ownBlock∧some k_≠(.slice Aq_ ab.length cq_:Value).ownBlock) (.slice ai aa.length aj) aa)∧(Kd.S (Kd.slice 3 (Kd.int .i64)) 23 w' w.heap.size (fun k_=>some k_≠(s_.1:Value).ownBlock∧some k_≠(.slice Aq_ ab.length cq_:Value).ownBlock∧some k_≠(.slice ai aa.length aj:Value).ownBlock) u7 aA)∧(∃ c_,(s_.1:Value) = .slice (some s_.2) ap.length c_)∧(w'.heap[ah]? = some (.cells #[.slice Aq_ ab.length cq_,.slice ai aa.length aj] 25 (0,0)))∧(w'.heap[ak]? = some (.cells #[.slice Aq_ ab.length cq_,.slice ai aa.length aj] 25 (0,0)))∧(IsS82 w0 w' g s0_0 aN)∧(KeepBut w w' g none)∧(Below w0.heap.size w0 w')) ?_ ?_
          rotate_left
          ·intro bY
           refine join_ (σ:=Value×Addr) 4 (bs 12 383) (fun s_ => [(50,s_.1),(52,.int .i64 aC),(53,.pointer (some (s_.2.add (aC).toNat)))]) (fun s_ w'=>(w'.cell? ⟨ak,0,none⟩=some (.slice Aq_ ab.length cq_)∧w'.cell? ⟨ak,1,none⟩=some (.slice ai aa.length aj))∧(Kd.R (Kd.int .i64) 3 w' w.heap.size (fun k_=>some k_≠(.slice Aq_ ab.length cq_:Value).ownBlock∧some k_≠(.slice ai aa.length aj:Value).ownBlock) s_.1 ap)∧(Kd.Q (Kd.int .i64) 3 w' w.heap.size (fun k_=>some k_≠(s_.1:Value).ownBlock∧some k_≠(.slice ai aa.length aj:Value).ownBlock) (.slice Aq_ ab.length cq_) ab)∧(Kd.R (Kd.int .i64) 3 w' w.heap.size (fun k_=>some k_≠(s_.1:Value).ownBlock∧some k_≠(.slice Aq_ ab.length cq_:Value).ownBlock) (.slice ai aa.length aj) aa)∧(Kd.S (Kd.slice 3 (Kd.int .i64)) 23 w' w.heap.size (fun k_=>some k_≠(s_.1:Value).ownBlock∧some k_≠(.slice Aq_ ab.length cq_:Value).ownBlock∧some k_≠(.slice ai aa.length aj:Value).ownBlock) u7 aA)∧(∃ c_,(s_.1:Value) = .slice (some s_.2) ap.length c_)∧(w'.heap[ah]? = some (.cells #[.slice none 0 0,.slice none 0 0] 25 (0,0)))∧(w'.heap[ak]? = some (.cells #[.slice Aq_ ab.length cq_,.slice ai aa.length aj] 25 (0,0)))∧(IsS82 w0 w' g s0_0 aN)∧(KeepBut w w' g none)∧(Below w0.heap.size w0 w')) ?_ ?_
           rotate_left
           ·intro cq
            refine join_ (σ:=Unit) 5 (bs 12 823) (fun s_ => [(52,.int .i64 aC)]) (fun s_ w'=>(w'.cell? ⟨ak,0,none⟩=some (.slice Aq_ ab.length cq_)∧w'.cell? ⟨ak,1,none⟩=some (.slice ai aa.length aj))∧(Kd.Q (Kd.int .i64) 3 w' w.heap.size (fun k_=>some k_≠(.slice ai aa.length aj:Value).ownBlock) (.slice Aq_ ab.length cq_) ab)∧(Kd.R (Kd.int .i64) 3 w' w.heap.size (fun k_=>some k_≠(.slice Aq_ ab.length cq_:Value).ownBlock) (.slice ai aa.length aj) aa)∧(Kd.S (Kd.slice 3 (Kd.int .i64)) 23 w' w.heap.size (fun k_=>some k_≠(.slice Aq_ ab.length cq_:Value).ownBlock∧some k_≠(.slice ai aa.length aj:Value).ownBlock) u7 aA)∧(w'.heap[ah]? = some (.cells #[.slice Aq_ ab.length cq_,.slice ai aa.length aj] 25 (0,0)))∧(w'.heap[ak]? = some (.cells #[.slice Aq_ ab.length cq_,.slice ai aa.length aj] 25 (0,0)))∧(IsS82 w0 w' g s0_0 aN)∧(KeepBut w w' g none)∧(Below w0.heap.size w0 w')) ?_ ?_
            rotate_left
            ·intro dd
             refine join_ (σ:=Value×Addr) 6 (bs 12 287) (fun s_ => [(50,s_.1)]) (fun s_ w'=>(w'.cell? ⟨ak,0,none⟩=some (.slice Aq_ ab.length cq_)∧w'.cell? ⟨ak,1,none⟩=some (.slice ai aa.length aj))∧(Kd.R (Kd.int .i64) 3 w' w.heap.size (fun k_=>some k_≠(.slice Aq_ ab.length cq_:Value).ownBlock∧some k_≠(.slice ai aa.length aj:Value).ownBlock) s_.1 ap)∧(Kd.Q (Kd.int .i64) 3 w' w.heap.size (fun k_=>some k_≠(s_.1:Value).ownBlock∧some k_≠(.slice ai aa.length aj:Value).ownBlock) (.slice Aq_ ab.length cq_) ab)∧(Kd.R (Kd.int .i64) 3 w' w.heap.size (fun k_=>some k_≠(s_.1:Value).ownBlock∧some k_≠(.slice Aq_ ab.length cq_:Value).ownBlock) (.slice ai aa.length aj) aa)∧(Kd.S (Kd.slice 3 (Kd.int .i64)) 23 w' w.heap.size (fun k_=>some k_≠(s_.1:Value).ownBlock∧some k_≠(.slice Aq_ ab.length cq_:Value).ownBlock∧some k_≠(.slice ai aa.length aj:Value).ownBlock) u7 aA)∧(∃ c_,(s_.1:Value) = .slice (some s_.2) ap.length c_)∧(w'.heap[ah]? = some (.cells #[.slice none 0 0,.slice none 0 0] 25 (0,0)))∧(w'.heap[ak]? = some (.cells #[.slice Aq_ ab.length cq_,.slice ai aa.length aj] 25 (0,0)))∧(IsS82 w0 w' g s0_0 aJ)∧(KeepBut w w' g none)∧(Below w0.heap.size w0 w')) ?_ ?_
             rotate_left
             ·intro et
              refine join_ (σ:=Unit) 6 (bs 12 311) (fun s_ => [(52,.int .i64 aC)]) (fun s_ w'=>(w'.cell? ⟨ak,0,none⟩=some (.slice Aq_ ab.length cq_)∧w'.cell? ⟨ak,1,none⟩=some (.slice ai aa.length aj))∧(Kd.Q (Kd.int .i64) 3 w' w.heap.size (fun k_=>some k_≠(.slice ai aa.length aj:Value).ownBlock) (.slice Aq_ ab.length cq_) ab)∧(Kd.R (Kd.int .i64) 3 w' w.heap.size (fun k_=>some k_≠(.slice Aq_ ab.length cq_:Value).ownBlock) (.slice ai aa.length aj) aa)∧(Kd.S (Kd.slice 3 (Kd.int .i64)) 23 w' w.heap.size (fun k_=>some k_≠(.slice Aq_ ab.length cq_:Value).ownBlock∧some k_≠(.slice ai aa.length aj:Value).ownBlock) u7 aA)∧(w'.heap[ah]? = some (.cells #[.slice none 0 0,.slice none 0 0] 25 (0,0)))∧(w'.heap[ak]? = some (.cells #[.slice Aq_ ab.length cq_,.slice ai aa.length aj] 25 (0,0)))∧(IsS82 w0 w' g s0_0 aN)∧(KeepBut w w' g none)∧(Below w0.heap.size w0 w')) ?_ ?_
              rotate_left
              ·intro eu
               refine two_ (i:=3) (j:=5) (Ni:=some 50) (Nj:=some 52) (bs 12 287) (bs 12 311) rfl rfl rfl rfl (two_of HT_.out (by kernel_rfl)) (by decide) (by decide) (fun K hK => ?_) (fun K hK => ?_)
               ·skip
                refine Kd.R_lit_step (Kd.int .i64) _ 3 ?hg (N:=50) ?hd (xs:=([0,7,wrap64 (av+1)]:List Int)) (inner := [.int .i64 0,.int .i64 7,.int .i64 (wrap64 (av+1))]) (ok:=fun _=>True) (okp:=fun _=>True) ?hr ?hp (fun _ hk=>hk) trivial (Below.refl _ _) (Nat.le_refl _) (by simp) ?_;(case hd=>rfl);(case hg=>rfl);(case hr=>first|(go_simp;done)|(go_simp;rfl));(case hp=>exact(Reps.one (show Kd.M (Kd.int .i64) _ _ _ 0 [.int .i64 0] from rfl) (Reps.one (show Kd.M (Kd.int .i64) _ _ _ 7 [.int .i64 7] from rfl) (Reps.one (show Kd.M (Kd.int .i64) _ _ _ (wrap64 (av+1)) [.int .i64 (wrap64 (av+1))] from rfl) (Reps.none _ _)))))
                intro ar w52 ba hb hg_ hnew_
                clear hg_ hnew_
                (first|rw [← aZ.out] at ba|(simp only [Int.reduceToNat] at ba;rw [← aZ.out] at ba))
                replace am:=A0_ (Kd.S_elder' (zS_ am) (Kd.R_base ba) hb)
                have au:=A0_ (rL (Kd.R_new' (Kd.R_new' ba (Kd.Q_lt (zQ_ ae))) (rX (zR_ ac))) (keep_size (w:=w) (g:=g) (row:=none) (zKp HK)))
                replace ae:=A0_ (Kd.Q_elder' (zQ_ ae) (Kd.R_base ba) hb)
                replace ac:=A0_ (Kd.R_elder' (zR_ ac) (Kd.R_base ba) hb)
                replace ag:=zK ag hb;replace af:=zK af hb
                replace HK:=A0_ (KeepBut.trans (zKp HK) (KeepBut.of_below hb g none) (.inl rfl))
                replace HB:=A0_ (bT (zBw HB) hb)
                replace HI0:=A0_ (IsS82.below (zIs HI0) hb)
                clear hb ba;obtain⟨fe,dA,dB⟩:=rS au.out;subst dB
                obtain⟨cr,fo54,_⟩:=tI (rR au.out).2.2 0 (by decide) (by rw [aZ.out];simp)
                cases fo54
                refine hK.out _ _ ⟨(kC af.out 0).trans rfl,(kC af.out 1).trans rfl⟩ (fun hHeld => ?_)
                clear hK K
                refine zN (some 50) ?_
                exact norm_ zA (et (.slice (some cr) ap.length dA,cr) _ ⟨hHeld,(zmR au (fun _ hk=>⟨hk.1.2,hk.2⟩)),(zmQ ae (fun _ hk=>⟨hk.2,hk.1⟩)),(zmR ac (fun _ hk=>⟨hk.2,hk.1⟩)),(zmS am (fun _ hk=>⟨hk.2,⟨hk.1.1,hk.1.2⟩⟩)),⟨_,rfl⟩,(zK_ ag),(zK_ af),(zIs HI0),(zKp HK),(zBw HB)⟩)
               skip
               refine zg Try.func74 #[.pointer (some ⟨g,0,none⟩),.int .i64 3] ?_
               with_reducible refine(s1a_.calls k3 g s0_0 aJ 3 aC aN w0 _ ?ay ?az dn.out).mono ?_
               (case ay=>repeat(first|(with_reducible first|exact HI0.out|apply IsS82.alloc|apply IsS82.drewN|apply IsS82.drew|apply IsS82.set_1|refine IsS82.far ?_ aD.out _|refine IsS82.far ?_ aw.out _)|exact HI0.out))
               (case az=>repeat(first|(with_reducible first|exact HB.out|apply bA|apply bN|apply bD|refine bS ?_ (IsS82.ge HI0.out)|refine bS ?_ aK.out|refine bS ?_ aY.out)|exact HB.out))
               rintro e w52 ⟨rfl,hi,hb,hk⟩
               refine⟨_,rfl,?_⟩
               replace am:=A0_ (sM (Kd.S_keep (IsS82.apartS (show IsS82 w0 _ g s0_0 aJ from zIs HI0) (zS_ am) (by decide)) hk (fun _ h=>h.2)) (fun _ h=>h.1))
               replace ae:=A0_ (Kd.Q_mono (Kd.Q_keep (IsS82.apartQ (show IsS82 w0 _ g s0_0 aJ from zIs HI0) (zQ_ ae) (by decide)) hk (fun _ h=>h.2)) (fun _ h=>h.1))
               replace ac:=A0_ (rM (Kd.R_keep (IsS82.apart (show IsS82 w0 _ g s0_0 aJ from zIs HI0) (zR_ ac) (by decide)) hk (fun _ h=>h.2)) (fun _ h=>h.1))
               replace ag:=A0_ (KeepBut.blk hk (g':=ah) (o := .cells #[.slice none 0 0,.slice none 0 0] 25 (0,0)) (zK_ ag) aE.out (by simp))
               replace af:=A0_ (KeepBut.blk hk (g':=ak) (o := .cells #[.slice Aq_ ab.length cq_,.slice ai aa.length aj] 25 (0,0)) (zK_ af) ax.out (by simp))
               replace HK:=A0_ (KeepBut.trans (zKp HK) hk (.inl rfl))
               replace HB:=A0_ (hb)
               replace HI0:=A0_ (hi)
               (try clear hb);(try clear hk);(try clear hi)
               refine hK.out _ _ ⟨(kC af.out 0).trans rfl,(kC af.out 1).trans rfl⟩ (fun hHeld => ?_)
               clear hK K
               refine zN (some 52) ?_
               exact norm_ zA (eu () _ ⟨hHeld,(zQ_ ae),(zR_ ac),(zS_ am),(zK_ ag),(zK_ af),(zIs HI0),(zKp HK),(zBw HB)⟩)
              skip
              rintro _ w53 ⟨hS_,h0_,h1_,h2_,h3_,h4_,h5_,h6_,h7_⟩
              replace ae:Aside0 (Kd.Q (Kd.int .i64) 3 w53 w.heap.size (fun k_=>some k_≠(.slice ai aa.length aj:Value).ownBlock) (.slice Aq_ ab.length cq_) ab):=⟨h0_⟩
              replace ac:Aside0 (Kd.R (Kd.int .i64) 3 w53 w.heap.size (fun k_=>some k_≠(.slice Aq_ ab.length cq_:Value).ownBlock) (.slice ai aa.length aj) aa):=⟨h1_⟩
              replace am:Aside0 (Kd.S (Kd.slice 3 (Kd.int .i64)) 23 w53 w.heap.size (fun k_=>some k_≠(.slice Aq_ ab.length cq_:Value).ownBlock∧some k_≠(.slice ai aa.length aj:Value).ownBlock) u7 aA):=⟨h2_⟩
              replace ag:Aside0 (w53.heap[ah]? = some (.cells #[.slice none 0 0,.slice none 0 0] 25 (0,0))):=⟨h3_⟩
              replace af:Aside0 (w53.heap[ak]? = some (.cells #[.slice Aq_ ab.length cq_,.slice ai aa.length aj] 25 (0,0))):=⟨h4_⟩
              replace HI0:Aside0 (IsS82 w0 w53 g s0_0 aN):=⟨h5_⟩
              replace HK:Aside0 (KeepBut w w53 g none):=⟨h6_⟩
              replace HB:Aside0 (Below w0.heap.size w0 w53):=⟨h7_⟩
              clear h0_ h1_ h2_ h3_ h4_ h5_ h6_ h7_
              have hHeld:w53.cell? ⟨ak,0,none⟩=some (.slice Aq_ ab.length cq_)∧w53.cell? ⟨ak,1,none⟩=some (.slice ai aa.length aj):=hS_
              refine norm_ (a' := ?_) ?_ ?_
              rotate_left
              ·simp only [putAll,Act.put,List.setIfInBounds_toArray,List.set_cons_zero,List.set_cons_succ]
               rfl
              refine two_ (i:=3) (j:=9) (Ni:=some 50) (Nj:=none) (bs 12 319) (bs 12 823) rfl rfl rfl rfl (two_of HT_.out (by kernel_rfl)) (by decide) (by decide) (fun K hK => ?_) (fun K hK => ?_)
              ·skip
               refine Kd.R_lit_step (Kd.int .i64) _ 3 ?hg (N:=50) ?hd (xs:=([0,7,wrap64 (av+1)]:List Int)) (inner := [.int .i64 0,.int .i64 7,.int .i64 (wrap64 (av+1))]) (ok:=fun _=>True) (okp:=fun _=>True) ?hr ?hp (fun _ hk=>hk) trivial (Below.refl _ _) (Nat.le_refl _) (by simp) ?_;(case hd=>rfl);(case hg=>rfl);(case hr=>first|(go_simp;done)|(go_simp;rfl));(case hp=>exact(Reps.one (show Kd.M (Kd.int .i64) _ _ _ 0 [.int .i64 0] from rfl) (Reps.one (show Kd.M (Kd.int .i64) _ _ _ 7 [.int .i64 7] from rfl) (Reps.one (show Kd.M (Kd.int .i64) _ _ _ (wrap64 (av+1)) [.int .i64 (wrap64 (av+1))] from rfl) (Reps.none _ _)))))
               intro ar w54 bb hb hg_ hnew_
               clear hg_ hnew_
               (first|rw [← aZ.out] at bb|(simp only [Int.reduceToNat] at bb;rw [← aZ.out] at bb))
               replace am:=A0_ (Kd.S_elder' (zS_ am) (Kd.R_base bb) hb)
               have au:=A0_ (rL (Kd.R_new' (Kd.R_new' bb (Kd.Q_lt (zQ_ ae))) (rX (zR_ ac))) (keep_size (w:=w) (g:=g) (row:=none) (zKp HK)))
               replace ae:=A0_ (Kd.Q_elder' (zQ_ ae) (Kd.R_base bb) hb)
               replace ac:=A0_ (Kd.R_elder' (zR_ ac) (Kd.R_base bb) hb)
               replace ag:=zK ag hb;replace af:=zK af hb
               replace HK:=A0_ (KeepBut.trans (zKp HK) (KeepBut.of_below hb g none) (.inl rfl))
               replace HB:=A0_ (bT (zBw HB) hb)
               replace HI0:=A0_ (IsS82.below (zIs HI0) hb)
               clear hb bb;obtain⟨ff,ce,cf⟩:=rS au.out;subst cf
               obtain⟨ct,fo56,_⟩:=tI (rR au.out).2.2 0 (by decide) (by rw [aZ.out];simp)
               cases fo56
               refine hK.out _ _ ⟨(kC af.out 0).trans rfl,(kC af.out 1).trans rfl⟩ (fun hHeld => ?_)
               clear hK K
               refine zN (some 50) ?_
               refine zP 6 (some 53) (bs 12 383) ?_
               exact norm_ zA (cq (.slice (some ct) ap.length ce,ct) _ ⟨hHeld,(zmR au (fun _ hk=>⟨hk.1.2,hk.2⟩)),(zmQ ae (fun _ hk=>⟨hk.2,hk.1⟩)),(zmR ac (fun _ hk=>⟨hk.2,hk.1⟩)),(zmS am (fun _ hk=>⟨hk.2,⟨hk.1.1,hk.1.2⟩⟩)),⟨_,rfl⟩,(zK_ ag),(zK_ af),(zIs HI0),(zKp HK),(zBw HB)⟩)
              skip
              have fg:w53.cell? ⟨ah,0,none⟩=some (.slice none 0 0):=(kC ag.out 0).trans rfl
              have eQ:=kF ag.out 0;have dZ:=al.out;have d0:=an.out
              have fh:w53.cell? ⟨ah,1,none⟩=some (.slice none 0 0):=(kC ag.out 1).trans rfl
              have eR:=kF ag.out 1;have d3:=al.out;have d4:=an.out
              refine skip_ (w1 := ?_) (by rfl) rfl ?_ ?_
              rotate_left
              ·go_simp
               rfl
              refine hK.out _ _ ⟨((cell_far (p:=⟨ah,_,none⟩) al.out _).trans (((cell_far (p:=⟨ah,_,none⟩) al.out _).trans (hHeld.1)))),((cell_far (p:=⟨ah,_,none⟩) al.out _).trans (((cell_far (p:=⟨ah,_,none⟩) al.out _).trans (hHeld.2))))⟩ (fun hHeld => ?_)
              clear hK K
              exact norm_ zA (dd () _ ⟨hHeld,(by(with_reducible repeat(first|apply Kd.Q_alloc|apply Kd.Q_drewN|apply Kd.Q_drew));exact Kd.Q_mono (Kd.Q_far (p:=⟨ah,1,none⟩) (Kd.Q_far (p:=⟨ah,0,none⟩) (Kd.Q_types ae.out ag.out (by decide)) (fun _ hk=>hk.2) (.slice Aq_ ab.length cq_)) (fun _ hk=>hk.2) (.slice ai aa.length aj)) (fun _ hk=>hk.1)),(zF ac ag (.slice Aq_ ab.length cq_) (.slice ai aa.length aj) 0 1),(by(with_reducible repeat(first|apply sA|apply sN|apply sD));exact sM (Kd.S_far (p:=⟨ah,1,none⟩) (Kd.S_far (p:=⟨ah,0,none⟩) (Kd.S_types am.out ag.out (by decide)) (fun _ hk=>hk.2) (.slice Aq_ ab.length cq_)) (fun _ hk=>hk.2) (.slice ai aa.length aj)) (fun _ hk=>⟨hk.1.1,hk.1.2⟩)),(by refine zbp (cs := #[.slice Aq_ ab.length cq_,.slice none 0 0]) ?_ 1 _ rfl;refine zbp (cs := #[.slice none 0 0,.slice none 0 0]) ?_ 0 _ rfl;exact zK_ ag),(by refine zbf ?_ _ (hp:=by exact al.out);refine zbf ?_ _ (hp:=by exact al.out);exact zK_ af),(zIs HI0),(zKp HK),(zBw HB)⟩)
             skip
             rintro⟨ar,ao⟩ w55 ⟨hS_,h0_,h1_,h2_,h3_,h4_,h5_,h6_,h7_,h8_,h9_⟩
             have au:Aside0 (Kd.R (Kd.int .i64) 3 w55 w.heap.size (fun k_=>some k_≠(.slice Aq_ ab.length cq_:Value).ownBlock∧some k_≠(.slice ai aa.length aj:Value).ownBlock) ar ap):=⟨h0_⟩
             replace ae:Aside0 (Kd.Q (Kd.int .i64) 3 w55 w.heap.size (fun k_=>some k_≠(ar:Value).ownBlock∧some k_≠(.slice ai aa.length aj:Value).ownBlock) (.slice Aq_ ab.length cq_) ab):=⟨h1_⟩
             replace ac:Aside0 (Kd.R (Kd.int .i64) 3 w55 w.heap.size (fun k_=>some k_≠(ar:Value).ownBlock∧some k_≠(.slice Aq_ ab.length cq_:Value).ownBlock) (.slice ai aa.length aj) aa):=⟨h2_⟩
             replace am:Aside0 (Kd.S (Kd.slice 3 (Kd.int .i64)) 23 w55 w.heap.size (fun k_=>some k_≠(ar:Value).ownBlock∧some k_≠(.slice Aq_ ab.length cq_:Value).ownBlock∧some k_≠(.slice ai aa.length aj:Value).ownBlock) u7 aA):=⟨h3_⟩
             have HA_HO556:Aside0 (∃ c_,(ar:Value) = .slice (some ao) ap.length c_):=⟨h4_⟩
             replace ag:Aside0 (w55.heap[ah]? = some (.cells #[.slice none 0 0,.slice none 0 0] 25 (0,0))):=⟨h5_⟩
             replace af:Aside0 (w55.heap[ak]? = some (.cells #[.slice Aq_ ab.length cq_,.slice ai aa.length aj] 25 (0,0))):=⟨h6_⟩
             replace HI0:Aside0 (IsS82 w0 w55 g s0_0 aJ):=⟨h7_⟩
             replace HK:Aside0 (KeepBut w w55 g none):=⟨h8_⟩
             replace HB:Aside0 (Below w0.heap.size w0 w55):=⟨h9_⟩
             clear h0_ h1_ h2_ h3_ h4_ h5_ h6_ h7_ h8_ h9_
             have hHeld:w55.cell? ⟨ak,0,none⟩=some (.slice Aq_ ab.length cq_)∧w55.cell? ⟨ak,1,none⟩=some (.slice ai aa.length aj):=hS_
             obtain⟨ce,cf⟩:=HA_HO556.out;clear HA_HO556;subst cf
             refine norm_ (a' := ?_) ?_ ?_
             rotate_left
             ·simp only [putAll,Act.put,List.setIfInBounds_toArray,List.set_cons_zero,List.set_cons_succ]
              rfl
             refine one_ (i:=5) (N:=some 52) (bs 12 319) rfl rfl (one_of HT_.out (by kernel_rfl)) (by decide) (fun K hK => ?_)
             refine zg Try.func74 #[.pointer (some ⟨g,0,none⟩),.int .i64 3] ?_
             with_reducible refine(s1a_.calls k3 g s0_0 aJ 3 aC aN w0 _ ?ay ?az dn.out).mono ?_
             (case ay=>repeat(first|(with_reducible first|exact HI0.out|apply IsS82.alloc|apply IsS82.drewN|apply IsS82.drew|apply IsS82.set_1|refine IsS82.far ?_ aD.out _|refine IsS82.far ?_ aw.out _)|exact HI0.out))
             (case az=>repeat(first|(with_reducible first|exact HB.out|apply bA|apply bN|apply bD|refine bS ?_ (IsS82.ge HI0.out)|refine bS ?_ aK.out|refine bS ?_ aY.out)|exact HB.out))
             rintro e w57 ⟨rfl,hi,hb,hk⟩
             refine⟨_,rfl,?_⟩
             replace am:=A0_ (sM (Kd.S_keep (IsS82.apartS (show IsS82 w0 _ g s0_0 aJ from zIs HI0) (zS_ am) (by decide)) hk (fun _ h=>h.2)) (fun _ h=>h.1))
             replace ae:=A0_ (Kd.Q_mono (Kd.Q_keep (IsS82.apartQ (show IsS82 w0 _ g s0_0 aJ from zIs HI0) (zQ_ ae) (by decide)) hk (fun _ h=>h.2)) (fun _ h=>h.1))
             replace ac:=A0_ (rM (Kd.R_keep (IsS82.apart (show IsS82 w0 _ g s0_0 aJ from zIs HI0) (zR_ ac) (by decide)) hk (fun _ h=>h.2)) (fun _ h=>h.1))
             replace ag:=A0_ (KeepBut.blk hk (g':=ah) (o := .cells #[.slice none 0 0,.slice none 0 0] 25 (0,0)) (zK_ ag) aE.out (by simp))
             replace af:=A0_ (KeepBut.blk hk (g':=ak) (o := .cells #[.slice Aq_ ab.length cq_,.slice ai aa.length aj] 25 (0,0)) (zK_ af) ax.out (by simp))
             replace au:=A0_ (rM (Kd.R_keep (IsS82.apart (show IsS82 w0 _ g s0_0 aJ from zIs HI0) (zR_ au) (by decide)) hk (fun _ h=>h.2)) (fun _ h=>h.1))
             replace HK:=A0_ (KeepBut.trans (zKp HK) hk (.inl rfl))
             replace HB:=A0_ (hb)
             replace HI0:=A0_ (hi)
             (try clear hb);(try clear hk);(try clear hi)
             refine hK.out _ _ ⟨(kC af.out 0).trans rfl,(kC af.out 1).trans rfl⟩ (fun hHeld => ?_)
             clear hK K
             refine zN (some 52) ?_
             refine zP 6 (some 53) (bs 12 383) ?_
             exact norm_ zA (cq (.slice (some ao) ap.length ce,ao) _ ⟨hHeld,(zR_ au),(zQ_ ae),(zR_ ac),(zS_ am),⟨_,rfl⟩,(zK_ ag),(zK_ af),(zIs HI0),(zKp HK),(zBw HB)⟩)
            skip
            rintro _ w56 ⟨hS_,h0_,h1_,h2_,h3_,h4_,h5_,h6_,h7_⟩
            replace ae:Aside0 (Kd.Q (Kd.int .i64) 3 w56 w.heap.size (fun k_=>some k_≠(.slice ai aa.length aj:Value).ownBlock) (.slice Aq_ ab.length cq_) ab):=⟨h0_⟩
            replace ac:Aside0 (Kd.R (Kd.int .i64) 3 w56 w.heap.size (fun k_=>some k_≠(.slice Aq_ ab.length cq_:Value).ownBlock) (.slice ai aa.length aj) aa):=⟨h1_⟩
            replace am:Aside0 (Kd.S (Kd.slice 3 (Kd.int .i64)) 23 w56 w.heap.size (fun k_=>some k_≠(.slice Aq_ ab.length cq_:Value).ownBlock∧some k_≠(.slice ai aa.length aj:Value).ownBlock) u7 aA):=⟨h2_⟩
            replace ag:Aside0 (w56.heap[ah]? = some (.cells #[.slice Aq_ ab.length cq_,.slice ai aa.length aj] 25 (0,0))):=⟨h3_⟩
            replace af:Aside0 (w56.heap[ak]? = some (.cells #[.slice Aq_ ab.length cq_,.slice ai aa.length aj] 25 (0,0))):=⟨h4_⟩
            replace HI0:Aside0 (IsS82 w0 w56 g s0_0 aN):=⟨h5_⟩
            replace HK:Aside0 (KeepBut w w56 g none):=⟨h6_⟩
            replace HB:Aside0 (Below w0.heap.size w0 w56):=⟨h7_⟩
            clear h0_ h1_ h2_ h3_ h4_ h5_ h6_ h7_
            have hHeld:w56.cell? ⟨ak,0,none⟩=some (.slice Aq_ ab.length cq_)∧w56.cell? ⟨ak,1,none⟩=some (.slice ai aa.length aj):=hS_
            refine norm_ (a' := ?_) ?_ ?_
            rotate_left
            ·simp only [putAll,Act.put,List.setIfInBounds_toArray,List.set_cons_zero,List.set_cons_succ]
             rfl
            refine one_ (i:=3) (N:=some 50) (bs 12 831) rfl rfl (one_of HT_.out (by kernel_rfl)) (by decide) (fun K hK => ?_)
            refine Kd.R_lit_step (Kd.int .i64) _ 3 ?hg (N:=50) ?hd (xs:=([0,7,wrap64 (av+1)]:List Int)) (inner := [.int .i64 0,.int .i64 7,.int .i64 (wrap64 (av+1))]) (ok:=fun _=>True) (okp:=fun _=>True) ?hr ?hp (fun _ hk=>hk) trivial (Below.refl _ _) (Nat.le_refl _) (by simp) ?_;(case hd=>rfl);(case hg=>rfl);(case hr=>first|(go_simp;done)|(go_simp;rfl));(case hp=>exact(Reps.one (show Kd.M (Kd.int .i64) _ _ _ 0 [.int .i64 0] from rfl) (Reps.one (show Kd.M (Kd.int .i64) _ _ _ 7 [.int .i64 7] from rfl) (Reps.one (show Kd.M (Kd.int .i64) _ _ _ (wrap64 (av+1)) [.int .i64 (wrap64 (av+1))] from rfl) (Reps.none _ _)))))
            intro ar w57 bc hb hg_ hnew_
            clear hg_ hnew_
            (first|rw [← aZ.out] at bc|(simp only [Int.reduceToNat] at bc;rw [← aZ.out] at bc))
            replace am:=A0_ (Kd.S_elder' (zS_ am) (Kd.R_base bc) hb)
            have au:=A0_ (rL (Kd.R_new' (Kd.R_new' bc (Kd.Q_lt (zQ_ ae))) (rX (zR_ ac))) (keep_size (w:=w) (g:=g) (row:=none) (zKp HK)))
            replace ae:=A0_ (Kd.Q_elder' (zQ_ ae) (Kd.R_base bc) hb)
            replace ac:=A0_ (Kd.R_elder' (zR_ ac) (Kd.R_base bc) hb)
            replace ag:=zK ag hb;replace af:=zK af hb
            replace HK:=A0_ (KeepBut.trans (zKp HK) (KeepBut.of_below hb g none) (.inl rfl))
            replace HB:=A0_ (bT (zBw HB) hb)
            replace HI0:=A0_ (IsS82.below (zIs HI0) hb)
            clear hb bc;obtain⟨fi,dC,dD⟩:=rS au.out;subst dD
            obtain⟨cu,fo59,_⟩:=tI (rR au.out).2.2 0 (by decide) (by rw [aZ.out];simp)
            cases fo59
            refine hK.out _ _ ⟨(kC af.out 0).trans rfl,(kC af.out 1).trans rfl⟩ (fun hHeld => ?_)
            clear hK K
            refine zN (some 50) ?_
            refine zP 6 (some 53) (bs 12 895) ?_
            exact norm_ zA (bY (.slice (some cu) ap.length dC,cu) _ ⟨hHeld,(zmR au (fun _ hk=>⟨hk.1.2,hk.2⟩)),(zmQ ae (fun _ hk=>⟨hk.2,hk.1⟩)),(zmR ac (fun _ hk=>⟨hk.2,hk.1⟩)),(zmS am (fun _ hk=>⟨hk.2,⟨hk.1.1,hk.1.2⟩⟩)),⟨_,rfl⟩,(zK_ ag),(zK_ af),(zIs HI0),(zKp HK),(zBw HB)⟩)
           skip
           rintro⟨ar,ao⟩ w56 ⟨hS_,h0_,h1_,h2_,h3_,h4_,h5_,h6_,h7_,h8_,h9_⟩
           have au:Aside0 (Kd.R (Kd.int .i64) 3 w56 w.heap.size (fun k_=>some k_≠(.slice Aq_ ab.length cq_:Value).ownBlock∧some k_≠(.slice ai aa.length aj:Value).ownBlock) ar ap):=⟨h0_⟩
           replace ae:Aside0 (Kd.Q (Kd.int .i64) 3 w56 w.heap.size (fun k_=>some k_≠(ar:Value).ownBlock∧some k_≠(.slice ai aa.length aj:Value).ownBlock) (.slice Aq_ ab.length cq_) ab):=⟨h1_⟩
           replace ac:Aside0 (Kd.R (Kd.int .i64) 3 w56 w.heap.size (fun k_=>some k_≠(ar:Value).ownBlock∧some k_≠(.slice Aq_ ab.length cq_:Value).ownBlock) (.slice ai aa.length aj) aa):=⟨h2_⟩
           replace am:Aside0 (Kd.S (Kd.slice 3 (Kd.int .i64)) 23 w56 w.heap.size (fun k_=>some k_≠(ar:Value).ownBlock∧some k_≠(.slice Aq_ ab.length cq_:Value).ownBlock∧some k_≠(.slice ai aa.length aj:Value).ownBlock) u7 aA):=⟨h3_⟩
           have HA_HO556:Aside0 (∃ c_,(ar:Value) = .slice (some ao) ap.length c_):=⟨h4_⟩
           replace ag:Aside0 (w56.heap[ah]? = some (.cells #[.slice none 0 0,.slice none 0 0] 25 (0,0))):=⟨h5_⟩
           replace af:Aside0 (w56.heap[ak]? = some (.cells #[.slice Aq_ ab.length cq_,.slice ai aa.length aj] 25 (0,0))):=⟨h6_⟩
           replace HI0:Aside0 (IsS82 w0 w56 g s0_0 aN):=⟨h7_⟩
           replace HK:Aside0 (KeepBut w w56 g none):=⟨h8_⟩
           replace HB:Aside0 (Below w0.heap.size w0 w56):=⟨h9_⟩
           clear h0_ h1_ h2_ h3_ h4_ h5_ h6_ h7_ h8_ h9_
           have hHeld:w56.cell? ⟨ak,0,none⟩=some (.slice Aq_ ab.length cq_)∧w56.cell? ⟨ak,1,none⟩=some (.slice ai aa.length aj):=hS_
           obtain⟨b6,cg⟩:=HA_HO556.out;clear HA_HO556;subst cg;skip
           (first|skip|(injection dE with f1_ f2_ f3_;have f4_:=f1_.symm;have f5_:=f3_.symm;clear f1_ f2_ f3_;subst f4_;subst f5_))
           refine norm_ (a' := ?_) ?_ ?_
           rotate_left
           ·simp only [putAll,Act.put,List.setIfInBounds_toArray,List.set_cons_zero,List.set_cons_succ]
            rfl
           refine two_ (i:=7) (j:=9) (Ni:=some 54) (Nj:=none) (bs 12 511) (bs 12 895) rfl rfl rfl rfl (two_of HT_.out (by kernel_rfl)) (by decide) (by decide) (fun K hK => ?_) (fun K hK => ?_)
           ·skip
            (have ch:0≤(aC:Int):=zd;have ci:aC<(ap.length:Int):=zd;obtain⟨b7,cj,br⟩:=tI (rR au.out).2.2 aC ch ci;obtain rfl:ao=b7:=(by injection cj))
            refine value_ (w1 := ?_) (v := ?_) (by rfl) rfl ?_ ?_
            rotate_left 2
            ·go_simp
             constructor
             ·rfl
             rfl
            clear br
            refine hK.out _ _ ⟨(kC af.out 0).trans rfl,(kC af.out 1).trans rfl⟩ (fun hHeld => ?_)
            clear hK K
            refine zN (some 54) ?_
            exact norm_ zA (cv (.slice (some ao) ap.length b6,ao) _ ⟨hHeld,(zR_ au),(zQ_ ae),(zR_ ac),(zS_ am),⟨_,rfl⟩,(zK_ ag),(zK_ af),(zIs HI0),(zKp HK),(zBw HB)⟩)
           skip
           have dG:w56.cell? ⟨ah,0,none⟩=some (.slice none 0 0):=(kC ag.out 0).trans rfl
           have de:=kF ag.out 0;have cw:=al.out;have cx:=an.out
           have dH:w56.cell? ⟨ah,1,none⟩=some (.slice none 0 0):=(kC ag.out 1).trans rfl
           have df:=kF ag.out 1;have cy:=al.out;have cz:=an.out
           refine skip_ (w1 := ?_) (by rfl) rfl ?_ ?_
           rotate_left
           ·go_simp
            rfl
           refine hK.out _ _ ⟨((cell_far (p:=⟨ah,_,none⟩) al.out _).trans (((cell_far (p:=⟨ah,_,none⟩) al.out _).trans (hHeld.1)))),((cell_far (p:=⟨ah,_,none⟩) al.out _).trans (((cell_far (p:=⟨ah,_,none⟩) al.out _).trans (hHeld.2))))⟩ (fun hHeld => ?_)
           clear hK K
           exact norm_ zA (bY (.slice (some ao) ap.length b6,ao) _ ⟨hHeld,(by(with_reducible repeat(first|apply rA|apply rN|apply rD));exact rM (rF (p:=⟨ah,1,none⟩) (rF (p:=⟨ah,0,none⟩) (rY au.out ag.out (by decide)) (fun _ hk=>hk.2) (.slice Aq_ ab.length cq_)) (fun _ hk=>hk.2) (.slice ai aa.length aj)) (fun _ hk=>⟨hk.1.1,hk.1.2⟩)),(by(with_reducible repeat(first|apply Kd.Q_alloc|apply Kd.Q_drewN|apply Kd.Q_drew));exact Kd.Q_mono (Kd.Q_far (p:=⟨ah,1,none⟩) (Kd.Q_far (p:=⟨ah,0,none⟩) (Kd.Q_types ae.out ag.out (by decide)) (fun _ hk=>hk.2) (.slice Aq_ ab.length cq_)) (fun _ hk=>hk.2) (.slice ai aa.length aj)) (fun _ hk=>⟨hk.1.1,hk.1.2⟩)),(by(with_reducible repeat(first|apply rA|apply rN|apply rD));exact rM (rF (p:=⟨ah,1,none⟩) (rF (p:=⟨ah,0,none⟩) (rY ac.out ag.out (by decide)) (fun _ hk=>hk.2) (.slice Aq_ ab.length cq_)) (fun _ hk=>hk.2) (.slice ai aa.length aj)) (fun _ hk=>⟨hk.1.1,hk.1.2⟩)),(by(with_reducible repeat(first|apply sA|apply sN|apply sD));exact sM (Kd.S_far (p:=⟨ah,1,none⟩) (Kd.S_far (p:=⟨ah,0,none⟩) (Kd.S_types am.out ag.out (by decide)) (fun _ hk=>hk.2) (.slice Aq_ ab.length cq_)) (fun _ hk=>hk.2) (.slice ai aa.length aj)) (fun _ hk=>⟨hk.1.1,⟨hk.1.2.1,hk.1.2.2⟩⟩)),⟨_,rfl⟩,(by refine zbp (cs := #[.slice Aq_ ab.length cq_,.slice none 0 0]) ?_ 1 _ rfl;refine zbp (cs := #[.slice none 0 0,.slice none 0 0]) ?_ 0 _ rfl;exact zK_ ag),(by refine zbf ?_ _ (hp:=by exact al.out);refine zbf ?_ _ (hp:=by exact al.out);exact zK_ af),(zIs HI0),(zKp HK),(zBw HB)⟩)
          skip
          rintro⟨ar,ao⟩ w59 ⟨hS_,h0_,h1_,h2_,h3_,h4_,h5_,h6_,h7_,h8_,h9_⟩
          have au:Aside0 (Kd.R (Kd.int .i64) 3 w59 w.heap.size (fun k_=>some k_≠(.slice Aq_ ab.length cq_:Value).ownBlock∧some k_≠(.slice ai aa.length aj:Value).ownBlock) ar ap):=⟨h0_⟩
          replace ae:Aside0 (Kd.Q (Kd.int .i64) 3 w59 w.heap.size (fun k_=>some k_≠(ar:Value).ownBlock∧some k_≠(.slice ai aa.length aj:Value).ownBlock) (.slice Aq_ ab.length cq_) ab):=⟨h1_⟩
          replace ac:Aside0 (Kd.R (Kd.int .i64) 3 w59 w.heap.size (fun k_=>some k_≠(ar:Value).ownBlock∧some k_≠(.slice Aq_ ab.length cq_:Value).ownBlock) (.slice ai aa.length aj) aa):=⟨h2_⟩
          replace am:Aside0 (Kd.S (Kd.slice 3 (Kd.int .i64)) 23 w59 w.heap.size (fun k_=>some k_≠(ar:Value).ownBlock∧some k_≠(.slice Aq_ ab.length cq_:Value).ownBlock∧some k_≠(.slice ai aa.length aj:Value).ownBlock) u7 aA):=⟨h3_⟩
          have HA_HO556:Aside0 (∃ c_,(ar:Value) = .slice (some ao) ap.length c_):=⟨h4_⟩
          replace ag:Aside0 (w59.heap[ah]? = some (.cells #[.slice Aq_ ab.length cq_,.slice ai aa.length aj] 25 (0,0))):=⟨h5_⟩
          replace af:Aside0 (w59.heap[ak]? = some (.cells #[.slice Aq_ ab.length cq_,.slice ai aa.length aj] 25 (0,0))):=⟨h6_⟩
          replace HI0:Aside0 (IsS82 w0 w59 g s0_0 aN):=⟨h7_⟩
          replace HK:Aside0 (KeepBut w w59 g none):=⟨h8_⟩
          replace HB:Aside0 (Below w0.heap.size w0 w59):=⟨h9_⟩
          clear h0_ h1_ h2_ h3_ h4_ h5_ h6_ h7_ h8_ h9_
          have hHeld:w59.cell? ⟨ak,0,none⟩=some (.slice Aq_ ab.length cq_)∧w59.cell? ⟨ak,1,none⟩=some (.slice ai aa.length aj):=hS_
          obtain⟨cQ,ck⟩:=HA_HO556.out;clear HA_HO556;subst ck
          refine norm_ (a' := ?_) ?_ ?_
          rotate_left
          ·simp only [putAll,Act.put,List.setIfInBounds_toArray,List.set_cons_zero,List.set_cons_succ]
           rfl
          refine one_ (i:=7) (N:=some 54) (bs 12 1023) rfl rfl (one_of HT_.out (by kernel_rfl)) (by decide) (fun K hK => ?_)
          (have ch:0≤(aC:Int):=zd;have ci:aC<(ap.length:Int):=zd;obtain⟨b7,cj,br⟩:=tI (rR au.out).2.2 aC ch ci;obtain rfl:ao=b7:=(by injection cj))
          refine value_ (w1 := ?_) (v := ?_) (by rfl) rfl ?_ ?_
          rotate_left 2
          ·go_simp
           constructor
           ·rfl
           rfl
          clear br
          refine hK.out _ _ ⟨(kC af.out 0).trans rfl,(kC af.out 1).trans rfl⟩ (fun hHeld => ?_)
          clear hK K
          refine zN (some 54) ?_
          exact norm_ zA (bu (.slice (some ao) ap.length cQ,ao) _ ⟨hHeld,(zR_ au),(zQ_ ae),(zR_ ac),(zS_ am),⟨_,rfl⟩,(zK_ ag),(zK_ af),(zIs HI0),(zKp HK),(zBw HB)⟩)
         skip
         rintro⟨ar,ao⟩ w56 ⟨hS_,h0_,h1_,h2_,h3_,h4_,h5_,h6_,h7_,h8_,h9_⟩
         have au:Aside0 (Kd.R (Kd.int .i64) 3 w56 w.heap.size (fun k_=>some k_≠(.slice Aq_ ab.length cq_:Value).ownBlock∧some k_≠(.slice ai aa.length aj:Value).ownBlock) ar ap):=⟨h0_⟩
         replace ae:Aside0 (Kd.Q (Kd.int .i64) 3 w56 w.heap.size (fun k_=>some k_≠(ar:Value).ownBlock∧some k_≠(.slice ai aa.length aj:Value).ownBlock) (.slice Aq_ ab.length cq_) ab):=⟨h1_⟩
         replace ac:Aside0 (Kd.R (Kd.int .i64) 3 w56 w.heap.size (fun k_=>some k_≠(ar:Value).ownBlock∧some k_≠(.slice Aq_ ab.length cq_:Value).ownBlock) (.slice ai aa.length aj) aa):=⟨h2_⟩
         replace am:Aside0 (Kd.S (Kd.slice 3 (Kd.int .i64)) 23 w56 w.heap.size (fun k_=>some k_≠(ar:Value).ownBlock∧some k_≠(.slice Aq_ ab.length cq_:Value).ownBlock∧some k_≠(.slice ai aa.length aj:Value).ownBlock) u7 aA):=⟨h3_⟩
         have HA_HO556:Aside0 (∃ c_,(ar:Value) = .slice (some ao) ap.length c_):=⟨h4_⟩
         replace ag:Aside0 (w56.heap[ah]? = some (.cells #[.slice none 0 0,.slice none 0 0] 25 (0,0))):=⟨h5_⟩
         replace af:Aside0 (w56.heap[ak]? = some (.cells #[.slice Aq_ ab.length cq_,.slice ai aa.length aj] 25 (0,0))):=⟨h6_⟩
         replace HI0:Aside0 (IsS82 w0 w56 g s0_0 aN):=⟨h7_⟩
         replace HK:Aside0 (KeepBut w w56 g none):=⟨h8_⟩
         replace HB:Aside0 (Below w0.heap.size w0 w56):=⟨h9_⟩
         clear h0_ h1_ h2_ h3_ h4_ h5_ h6_ h7_ h8_ h9_
         have hHeld:w56.cell? ⟨ak,0,none⟩=some (.slice Aq_ ab.length cq_)∧w56.cell? ⟨ak,1,none⟩=some (.slice ai aa.length aj):=hS_
         obtain⟨b6,cg⟩:=HA_HO556.out;clear HA_HO556;subst cg;skip
         (first|skip|(injection dE with f1_ f2_ f3_;have f4_:=f1_.symm;have f5_:=f3_.symm;clear f1_ f2_ f3_;subst f4_;subst f5_))
         refine norm_ (a' := ?_) ?_ ?_
         rotate_left
         ·simp only [putAll,Act.put,List.setIfInBounds_toArray,List.set_cons_zero,List.set_cons_succ]
          rfl
         refine one_ (i:=9) (N:=none) (bs 12 1023) rfl rfl (one_of HT_.out (by kernel_rfl)) (by decide) (fun K hK => ?_)
         have dG:w56.cell? ⟨ah,0,none⟩=some (.slice none 0 0):=(kC ag.out 0).trans rfl
         have de:=kF ag.out 0;have cw:=al.out;have cx:=an.out
         have dH:w56.cell? ⟨ah,1,none⟩=some (.slice none 0 0):=(kC ag.out 1).trans rfl
         have df:=kF ag.out 1;have cy:=al.out;have cz:=an.out
         refine skip_ (w1 := ?_) (by rfl) rfl ?_ ?_
         rotate_left
         ·go_simp
          rfl
         refine hK.out _ _ ⟨((cell_far (p:=⟨ah,_,none⟩) al.out _).trans (((cell_far (p:=⟨ah,_,none⟩) al.out _).trans (hHeld.1)))),((cell_far (p:=⟨ah,_,none⟩) al.out _).trans (((cell_far (p:=⟨ah,_,none⟩) al.out _).trans (hHeld.2))))⟩ (fun hHeld => ?_)
         clear hK K
         exact norm_ zA (bu (.slice (some ao) ap.length b6,ao) _ ⟨hHeld,(by(with_reducible repeat(first|apply rA|apply rN|apply rD));exact rM (rF (p:=⟨ah,1,none⟩) (rF (p:=⟨ah,0,none⟩) (rY au.out ag.out (by decide)) (fun _ hk=>hk.2) (.slice Aq_ ab.length cq_)) (fun _ hk=>hk.2) (.slice ai aa.length aj)) (fun _ hk=>⟨hk.1.1,hk.1.2⟩)),(by(with_reducible repeat(first|apply Kd.Q_alloc|apply Kd.Q_drewN|apply Kd.Q_drew));exact Kd.Q_mono (Kd.Q_far (p:=⟨ah,1,none⟩) (Kd.Q_far (p:=⟨ah,0,none⟩) (Kd.Q_types ae.out ag.out (by decide)) (fun _ hk=>hk.2) (.slice Aq_ ab.length cq_)) (fun _ hk=>hk.2) (.slice ai aa.length aj)) (fun _ hk=>⟨hk.1.1,hk.1.2⟩)),(by(with_reducible repeat(first|apply rA|apply rN|apply rD));exact rM (rF (p:=⟨ah,1,none⟩) (rF (p:=⟨ah,0,none⟩) (rY ac.out ag.out (by decide)) (fun _ hk=>hk.2) (.slice Aq_ ab.length cq_)) (fun _ hk=>hk.2) (.slice ai aa.length aj)) (fun _ hk=>⟨hk.1.1,hk.1.2⟩)),(by(with_reducible repeat(first|apply sA|apply sN|apply sD));exact sM (Kd.S_far (p:=⟨ah,1,none⟩) (Kd.S_far (p:=⟨ah,0,none⟩) (Kd.S_types am.out ag.out (by decide)) (fun _ hk=>hk.2) (.slice Aq_ ab.length cq_)) (fun _ hk=>hk.2) (.slice ai aa.length aj)) (fun _ hk=>⟨hk.1.1,⟨hk.1.2.1,hk.1.2.2⟩⟩)),⟨_,rfl⟩,(by refine zbp (cs := #[.slice Aq_ ab.length cq_,.slice none 0 0]) ?_ 1 _ rfl;refine zbp (cs := #[.slice none 0 0,.slice none 0 0]) ?_ 0 _ rfl;exact zK_ ag),(by refine zbf ?_ _ (hp:=by exact al.out);refine zbf ?_ _ (hp:=by exact al.out);exact zK_ af),(zIs HI0),(zKp HK),(zBw HB)⟩)
        rintro⟨ar,ao⟩ w59 ⟨hS_,h0_,h1_,h2_,h3_,h4_,h5_,h6_,h7_,h8_,h9_⟩
        have au:Aside0 (Kd.R (Kd.int .i64) 3 w59 w.heap.size (fun k_=>some k_≠(.slice Aq_ ab.length cq_:Value).ownBlock∧some k_≠(.slice ai aa.length aj:Value).ownBlock) ar ap):=⟨h0_⟩
        replace ae:Aside0 (Kd.Q (Kd.int .i64) 3 w59 w.heap.size (fun k_=>some k_≠(ar:Value).ownBlock∧some k_≠(.slice ai aa.length aj:Value).ownBlock) (.slice Aq_ ab.length cq_) ab):=⟨h1_⟩
        replace ac:Aside0 (Kd.R (Kd.int .i64) 3 w59 w.heap.size (fun k_=>some k_≠(ar:Value).ownBlock∧some k_≠(.slice Aq_ ab.length cq_:Value).ownBlock) (.slice ai aa.length aj) aa):=⟨h2_⟩
        replace am:Aside0 (Kd.S (Kd.slice 3 (Kd.int .i64)) 23 w59 w.heap.size (fun k_=>some k_≠(ar:Value).ownBlock∧some k_≠(.slice Aq_ ab.length cq_:Value).ownBlock∧some k_≠(.slice ai aa.length aj:Value).ownBlock) u7 aA):=⟨h3_⟩
        have HA_HO556:Aside0 (∃ c_,(ar:Value) = .slice (some ao) ap.length c_):=⟨h4_⟩
        replace ag:Aside0 (w59.heap[ah]? = some (.cells #[.slice Aq_ ab.length cq_,.slice ai aa.length aj] 25 (0,0))):=⟨h5_⟩
        replace af:Aside0 (w59.heap[ak]? = some (.cells #[.slice Aq_ ab.length cq_,.slice ai aa.length aj] 25 (0,0))):=⟨h6_⟩
        replace HI0:Aside0 (IsS82 w0 w59 g s0_0 aN):=⟨h7_⟩
        replace HK:Aside0 (KeepBut w w59 g none):=⟨h8_⟩
        replace HB:Aside0 (Below w0.heap.size w0 w59):=⟨h9_⟩
        clear h0_ h1_ h2_ h3_ h4_ h5_ h6_ h7_ h8_ h9_
        have hHeld:w59.cell? ⟨ak,0,none⟩=some (.slice Aq_ ab.length cq_)∧w59.cell? ⟨ak,1,none⟩=some (.slice ai aa.length aj):=hS_
        obtain⟨cQ,ck⟩:=HA_HO556.out;clear HA_HO556;subst ck
        refine norm_ (a' := ?_) ?_ ?_
        rotate_left
        ·simp only [putAll,Act.put,List.setIfInBounds_toArray,List.set_cons_zero,List.set_cons_succ]
         rfl
        refine zP 10 (some 3) (bs 12 2047) ?_
        refine zP 11 (some 4) (bs 12 4095) ?_
        refine done_ (done_of HT_.out (by kernel_rfl)) ?_
        try go_wp2
        refine bodyPost_ret (results_ctt rfl _ _ ah 25 #[.slice Aq_ ab.length cq_,.slice ai aa.length aj] (0,0) _ rfl (zK_ ag) Try.underlying25 rfl (by kernel_rfl)) rfl ?_
        exact⟨_,_,_,by first|rfl|(simp [*] <;> rfl),zmQ ae (fun _ hk=>hk.2),zmR ac (fun _ hk=>hk.2),zmS am (fun _ hk=>⟨hk.2.1,hk.2.2⟩),zIs HI0,zBw HB,zKp HK⟩
       rw [if_neg bL] at H
       have db:(aV == 0)=false:=beq_eq_false_iff_ne.mpr bL
       have dc:(aV != 0)=true:=bne_iff_ne.mpr bL
       by_cases bM:aV=1
       ·rw [if_pos bM] at H
        have dg:(aV == 1)=true:=beq_iff_eq.mpr bM
        have dh:(aV != 1)=false:=bne_eq_false_iff_eq.mpr bM
        clear bM;obtain⟨bO,ev,H⟩:=zbind H
        have dr:=zpc H;replace H:=zph H
        have di:=A0_ dr;clear dr
        obtain⟨dI,b8⟩ : ∃ y_:List (List Int),y_=(aA ++ [bO]):=⟨_,rfl⟩
        replace H:(some (ab,aa,av,dI,aJ))=some (r1,r2,r3,r4,r5):=zH b8 H
        have dj:=A0_ b8;clear b8;simp only [Option.some.injEq,Prod.mk.injEq] at H;obtain⟨rfl,rfl,rfl,rfl,rfl⟩:=H;have eS:=al.out;have eT:=an.out;have eU:=ax.out;have eV:=aw.out;have d5:=zc0 af;have d6:=zc1 af;have d7:=kF af.out 0;have d8:=kF af.out 1;obtain⟨a4,a5,dJ⟩:=rS ac.out;subst dJ
        try go_wp2_with (first|((with_reducible refine gC (f:=74) rfl ?_);refine zJ (some 44) Try.func74 #[.pointer (some ⟨g,0,none⟩),.int .i64 40] ?_;(with_reducible refine(s1a_.calls k3 g s0_0 aq 40 aV aJ w0 _ ?ay ?az cP.out).mono ?_);(case ay=>repeat(first|(with_reducible first|exact HI0.out|apply IsS82.alloc|apply IsS82.drewN|apply IsS82.drew|apply IsS82.set_1|refine IsS82.far ?_ aD.out _|refine IsS82.far ?_ aw.out _)|exact HI0.out));(case az=>repeat(first|(with_reducible first|exact HB.out|apply bA|apply bN|apply bD|refine bS ?_ (IsS82.ge HI0.out)|refine bS ?_ aK.out|refine bS ?_ aY.out)|exact HB.out));rintro e w68 ⟨rfl,hi,hb,hk⟩;refine⟨_,rfl,?_⟩;replace am:=A0_ (sM (Kd.S_keep (IsS82.apartS (show IsS82 w0 _ g s0_0 aq from zIs HI0) (zS_ am) (by decide)) hk (fun _ h=>h.2)) (fun _ h=>h.1));replace ae:=A0_ (Kd.Q_mono (Kd.Q_keep (IsS82.apartQ (show IsS82 w0 _ g s0_0 aq from zIs HI0) (zQ_ ae) (by decide)) hk (fun _ h=>h.2)) (fun _ h=>h.1));replace ac:=A0_ (rM (Kd.R_keep (IsS82.apart (show IsS82 w0 _ g s0_0 aq from zIs HI0) (zR_ ac) (by decide)) hk (fun _ h=>h.2)) (fun _ h=>h.1));replace ag:=A0_ (KeepBut.blk hk (g':=ah) (o := .cells #[.slice none 0 0,.slice none 0 0] 25 (0,0)) (zK_ ag) aE.out (by simp));replace af:=A0_ (KeepBut.blk hk (g':=ak) (o := .cells #[u531000,.slice a4 aa.length a5] 25 (0,0)) (zK_ af) ax.out (by simp));replace HK:=A0_ (KeepBut.trans (zKp HK) hk (.inl rfl));replace HB:=A0_ (hb);replace HI0:=A0_ (hi);(try clear hb)))
        replace am:=A0_ (sD am.out)
        replace ae:=A0_ (Kd.Q_drew ae.out)
        replace ac:=A0_ (rD ac.out)
        replace ag:=A0_ (kD ag.out)
        replace af:=A0_ (kD af.out)
        replace HI0:=A0_ (IsS82.drew HI0.out)
        replace HK:=A0_ (keep_drew HK.out)
        replace HB:=A0_ (bD HB.out)
        refine start_ (n:=10) (S:=fun w'=>w'.cell? ⟨ak,0,none⟩=some (u531000)∧w'.cell? ⟨ak,1,none⟩=some (.slice a4 aa.length a5)) (ds := []) (bs 10 0) (by kernel_rfl) rfl rfl ⟨(kC af.out 0).trans rfl,(kC af.out 1).trans rfl⟩ (fun hHeld => ?_);refine with_tabW s1h_.tab15 s1h_.bits15 (fun HT_ HW_ => ?_)
        generalize w68.drew=w69 at am ae ac ag af HI0 HK HB hHeld ⊢
        refine zP 1 (some 59) (bs 10 2) ?_
        refine zP 2 (some 60) (bs 10 6) ?_
        refine zP 3 (some 61) (bs 10 14) ?_
        refine zT 0 (some 58) (bs 10 15) hHeld ?_
        refine one_ (i:=4) (N:=some 62) (bs 10 31) rfl rfl (one_of HT_.out (by kernel_rfl)) (by decide) (fun K hK => ?_)
        refine zg Try.func79 #[.int .i64 av] ?_
        with_reducible refine(s15_.calls k3 av bO _ ev.out).mono ?_
        rintro e w70 ⟨fj,rfl,aM,hb⟩
        refine⟨_,rfl,?_⟩
        replace am:=A0_ (Kd.S_elder' (zS_ am) (Kd.R_base aM) hb)
        have bC:=A0_ (rL (Kd.R_new' (Kd.R_new' aM (Kd.Q_lt (zQ_ ae))) (rX (zR_ ac))) (keep_size (w:=w) (g:=g) (row:=none) (zKp HK)))
        replace ae:=A0_ (Kd.Q_elder' (zQ_ ae) (Kd.R_base aM) hb)
        replace ac:=A0_ (Kd.R_elder' (zR_ ac) (Kd.R_base aM) hb)
        replace ag:=zK ag hb;replace af:=zK af hb
        replace HK:=A0_ (KeepBut.trans (zKp HK) (KeepBut.of_below hb g none) (.inl rfl))
        replace HB:=A0_ (bT (zBw HB) hb)
        replace HI0:=A0_ (IsS82.below (zIs HI0) hb)
        (try clear hb);(try clear hk);(try clear hi);(try clear aM);obtain⟨cR,cS,cT⟩:=rS bC.out
        (first|subst cT|(injection cT with f1_ f2_ f3_;have f4_:=f1_.symm;have f5_:=f3_.symm;clear f1_ f2_ f3_;subst f4_;subst f5_))
        refine hK.out _ _ ⟨(kC af.out 0).trans rfl,(kC af.out 1).trans rfl⟩ (fun hHeld => ?_)
        clear hK K
        refine zN (some 62) ?_
        refine one_ (i:=5) (N:=some 63) (bs 10 63) rfl rfl (one_of HT_.out (by kernel_rfl)) (by decide) (fun K hK => ?_)
        refine value_ (w1 := ?_) (v := ?_) (by rfl) rfl ?_ ?_
        rotate_left 2
        ·go_simp
         constructor
         ·rfl
         rfl
        refine hK.out _ _ ⟨(kC (kA af.out _) 0).trans rfl,(kC (kA af.out _) 1).trans rfl⟩ (fun hHeld => ?_)
        clear hK K
        refine zN (some 63) ?_
        refine one_ (i:=6) (N:=some 64) (bs 10 127) rfl rfl (one_of HT_.out (by kernel_rfl)) (by decide) (fun K hK => ?_)
        refine Kd.S_append_step (Kd.slice 3 (Kd.int .i64)) w.heap.size (by rfl) (.tmp 60) (.tmp 63) 26 23 (.slice none 0 0) 24 rfl Try.underlying26 info23 rfl (by decide) (by omega) u7 aA bO [.slice cR bO.length cS] (fun k_=>some k_≠(u531000:Value).ownBlock∧some k_≠(.slice a4 aa.length a5:Value).ownBlock) (fun k_=>some k_=(.slice cR bO.length cS:Value).ownBlock) rfl rfl ?aP (fun k_ hk_=>((rM (ok':=fun k_=>((fun k_=>some k_≠(u531000:Value).ownBlock∧some k_≠(.slice a4 aa.length a5:Value).ownBlock)) k_∧some k_≠(u7:Value).ownBlock) (Kd.R_apart' (bC.out) (Kd.S_typed am.out) (by decide)) (fun k_ hk=>⟨⟨hk.1.1.2,hk.1.2⟩,hk.2⟩))).1 k_ hk_.symm) ?aF ?aO (Below.refl _ _) ?aS ?aL ?_
        (case aP=>exact Kd.M_row (rM (Kd.R_tight rfl (rM (ok':=fun k_=>((fun k_=>some k_≠(u531000:Value).ownBlock∧some k_≠(.slice a4 aa.length a5:Value).ownBlock)) k_∧some k_≠(u7:Value).ownBlock) (Kd.R_apart' (bC.out) (Kd.S_typed am.out) (by decide)) (fun k_ hk=>⟨⟨hk.1.1.2,hk.1.2⟩,hk.2⟩))) (fun _ h_=>h_)))
        (case aF=>exact(fun k_ hk=>⟨Kd.fresh' (Kd.Q_lt (zQ_ ae)) k_ hk,Kd.fresh' (rX (zR_ ac)) k_ hk⟩))
        (case aO=>exact(zmS am (fun k_ hk=>⟨⟨hk.1.1,hk.1.2⟩,fun e_=>hk.2 e_⟩)))
        (case aS=>exact(keep_size (w:=w) (g:=g) (row:=none) (zKp HK)))
        (case aL=>have:=di.out;omega)
        intro fk w71 ho hb hg hat
        rw [← dj.out] at ho
        replace ae:=A0_ (Kd.Q_over' (zQ_ ae) (Kd.S_typed (zS_ am)) (by decide) hg)
        replace ac:=A0_ (Kd.R_over' (zR_ ac) (Kd.S_typed (zS_ am)) (by decide) hg)
        replace ag:=A0_ (blk_grown (g:=ah) (o := .cells #[.slice none 0 0,.slice none 0 0] 25 (0,0)) (zK_ ag) hg (Kd.S_ne am.out ag.out (by decide)))
        replace af:=A0_ (blk_grown (g:=ak) (o := .cells #[u531000,.slice a4 aa.length a5] 25 (0,0)) (zK_ af) hg (Kd.S_ne am.out af.out (by decide)))
        replace HB:=A0_ (below_weaken (zBw HB) HL.out hb)
        replace HI0:=A0_ (IsS82.grown (zIs HI0) hg (IsS82.own_neS HI0.out am.out (by decide)))
        replace HK:=A0_ (KeepBut.trans (zKp HK) (KeepBut.of_grown hg g) (Kd.S_base2 am.out))
        have dk:=A0_ (ho)
        clear am bC ho hb hg hat;obtain⟨bP,bQ,cU,_⟩:=Kd.Q_slice ae.out
        (first|subst cU|(injection cU with f1_ f2_ f3_;have f4_:=f1_.symm;have f5_:=f3_.symm;clear f1_ f2_ f3_;subst f4_;subst f5_))
        refine hK.out _ _ ⟨(kC af.out 0).trans rfl,(kC af.out 1).trans rfl⟩ (fun hHeld => ?_)
        clear hK K
        refine zN (some 64) ?_
        refine one_ (i:=7) (N:=none) (bs 10 255) rfl rfl (one_of HT_.out (by kernel_rfl)) (by decide) (fun K hK => ?_)
        have fl:w71.cell? ⟨ah,0,none⟩=some (.slice none 0 0):=(kC ag.out 0).trans rfl
        have eW:=kF ag.out 0;have d9:=al.out;have ea:=an.out
        have fm:w71.cell? ⟨ah,1,none⟩=some (.slice none 0 0):=(kC ag.out 1).trans rfl
        have eX:=kF ag.out 1;have eb:=al.out;have ec:=an.out
        refine skip_ (w1 := ?_) (by rfl) rfl ?_ ?_
        rotate_left
        ·go_simp
         rfl
        refine hK.out _ _ ⟨((cell_far (p:=⟨ah,_,none⟩) al.out _).trans (((cell_far (p:=⟨ah,_,none⟩) al.out _).trans (hHeld.1)))),((cell_far (p:=⟨ah,_,none⟩) al.out _).trans (((cell_far (p:=⟨ah,_,none⟩) al.out _).trans (hHeld.2))))⟩ (fun hHeld => ?_)
        clear hK K
        refine zP 8 (some 3) (bs 10 511) ?_
        refine zP 9 (some 4) (bs 10 1023) ?_
        refine done_ (done_of HT_.out (by kernel_rfl)) ?_
        try go_wp2
        refine bodyPost_ret (results_ctt rfl _ _ ah 25 #[.slice bP ab.length bQ,.slice a4 aa.length a5] (0,0) _ rfl (by refine zbp (cs := #[.slice bP ab.length bQ,.slice none 0 0]) ?_ 1 _ rfl;refine zbp (cs := #[.slice none 0 0,.slice none 0 0]) ?_ 0 _ rfl;exact zK_ ag) Try.underlying25 rfl (by kernel_rfl)) rfl ?_
        exact⟨_,_,_,by first|rfl|(simp [*] <;> rfl),by(with_reducible repeat(first|apply Kd.Q_alloc|apply Kd.Q_drewN|apply Kd.Q_drew));exact Kd.Q_mono (Kd.Q_far (p:=⟨ah,1,none⟩) (Kd.Q_far (p:=⟨ah,0,none⟩) (Kd.Q_types ae.out ag.out (by decide)) (fun _ hk=>hk.2) (.slice bP ab.length bQ)) (fun _ hk=>hk.2) (.slice a4 aa.length a5)) (fun _ hk=>hk.1.1),by(with_reducible repeat(first|apply rA|apply rN|apply rD));exact rM (rF (p:=⟨ah,1,none⟩) (rF (p:=⟨ah,0,none⟩) (rY ac.out ag.out (by decide)) (fun _ hk=>hk.2) (.slice bP ab.length bQ)) (fun _ hk=>hk.2) (.slice a4 aa.length a5)) (fun _ hk=>hk.1.1),by(with_reducible repeat(first|apply sA|apply sN|apply sD));exact sM (Kd.S_far (p:=⟨ah,1,none⟩) (Kd.S_far (p:=⟨ah,0,none⟩) (Kd.S_types dk.out ag.out (by decide)) (fun _ hk=>hk.2) (.slice bP ab.length bQ)) (fun _ hk=>hk.2) (.slice a4 aa.length a5)) (fun _ hk=>⟨hk.1.1,hk.1.2⟩),zIs HI0,zBw HB,zKp HK⟩
       rw [if_neg bM] at H
       have dg:(aV == 1)=false:=beq_eq_false_iff_ne.mpr bM
       have dh:(aV != 1)=true:=bne_iff_ne.mpr bM
       simp only [Option.some.injEq,Prod.mk.injEq] at H;obtain⟨rfl,rfl,rfl,rfl,rfl⟩:=H;have eY:=al.out;have eZ:=an.out;have e2:=ax.out;have e3:=aw.out;have ed:=zc0 af;have ee:=zc1 af;have ef:=kF af.out 0;have eg:=kF af.out 1;obtain⟨bR,bU,dK⟩:=rS ac.out;subst dK
       go_wp2_with (first|((with_reducible refine gC (f:=74) rfl ?_);refine zJ (some 44) Try.func74 #[.pointer (some ⟨g,0,none⟩),.int .i64 40] ?_;(with_reducible refine(s1a_.calls k3 g s0_0 aq 40 aV aJ w0 _ ?ay ?az cP.out).mono ?_);(case ay=>repeat(first|(with_reducible first|exact HI0.out|apply IsS82.alloc|apply IsS82.drewN|apply IsS82.drew|apply IsS82.set_1|refine IsS82.far ?_ aD.out _|refine IsS82.far ?_ aw.out _)|exact HI0.out));(case az=>repeat(first|(with_reducible first|exact HB.out|apply bA|apply bN|apply bD|refine bS ?_ (IsS82.ge HI0.out)|refine bS ?_ aK.out|refine bS ?_ aY.out)|exact HB.out));rintro e w80 ⟨rfl,hi,hb,hk⟩;refine⟨_,rfl,?_⟩;replace am:=A0_ (sM (Kd.S_keep (IsS82.apartS (show IsS82 w0 _ g s0_0 aq from zIs HI0) (zS_ am) (by decide)) hk (fun _ h=>h.2)) (fun _ h=>h.1));replace ae:=A0_ (Kd.Q_mono (Kd.Q_keep (IsS82.apartQ (show IsS82 w0 _ g s0_0 aq from zIs HI0) (zQ_ ae) (by decide)) hk (fun _ h=>h.2)) (fun _ h=>h.1));replace ac:=A0_ (rM (Kd.R_keep (IsS82.apart (show IsS82 w0 _ g s0_0 aq from zIs HI0) (zR_ ac) (by decide)) hk (fun _ h=>h.2)) (fun _ h=>h.1));replace ag:=A0_ (KeepBut.blk hk (g':=ah) (o := .cells #[.slice none 0 0,.slice none 0 0] 25 (0,0)) (zK_ ag) aE.out (by simp));replace af:=A0_ (KeepBut.blk hk (g':=ak) (o := .cells #[u531000,.slice bR aa.length bU] 25 (0,0)) (zK_ af) ax.out (by simp));replace HK:=A0_ (KeepBut.trans (zKp HK) hk (.inl rfl));replace HB:=A0_ (hb);replace HI0:=A0_ (hi);(try clear hb);have eh:=zc0 af;have ei:=zc1 af;have ej:=kF af.out 0;have ek:=kF af.out 1;obtain⟨bV,bW,dL,_⟩:=Kd.Q_slice ae.out;subst dL;have e4:=aE.out;have e5:=aD.out;have el:=zc0 ag;have em:=zc1 ag;have en:=kF ag.out 0;have eo:=kF ag.out 1))
       refine bodyPost_ret (results_ctt rfl _ _ ah 25 #[.slice bV ab.length bW,.slice bR aa.length bU] (0,0) _ rfl (by refine zbp (cs := #[.slice bV ab.length bW,.slice none 0 0]) ?_ 1 _ rfl;refine zbp (cs := #[.slice none 0 0,.slice none 0 0]) ?_ 0 _ rfl;exact zK_ ag) Try.underlying25 rfl (by kernel_rfl)) rfl ?_
       exact⟨_,_,_,by first|rfl|(simp [*] <;> rfl),by(with_reducible repeat(first|apply Kd.Q_alloc|apply Kd.Q_drewN|apply Kd.Q_drew));exact Kd.Q_mono (Kd.Q_far (p:=⟨ah,1,none⟩) (Kd.Q_far (p:=⟨ah,0,none⟩) (Kd.Q_types ae.out ag.out (by decide)) (fun _ hk=>hk.2) (.slice bV ab.length bW)) (fun _ hk=>hk.2) (.slice bR aa.length bU)) (fun _ hk=>hk.1),zF ac ag (.slice bV ab.length bW) (.slice bR aa.length bU) 0 1,by(with_reducible repeat(first|apply sA|apply sN|apply sD));exact sM (Kd.S_far (p:=⟨ah,1,none⟩) (Kd.S_far (p:=⟨ah,0,none⟩) (Kd.S_types am.out ag.out (by decide)) (fun _ hk=>hk.2) (.slice bV ab.length bW)) (fun _ hk=>hk.2) (.slice bR aa.length bU)) (fun _ hk=>⟨hk.1.1,hk.1.2⟩),zIs HI0,zBw HB,zKp HK⟩
end Go.Proofs.Ytmegggomhjgehaa.PFnCoverTree
