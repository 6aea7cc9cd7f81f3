import Derived.Test.YtjebcgbmlbemcaaGreatDoorXE
import Derived.Test.YtjebcgbmlbemcaaGreatDoorXC
import Derived.Test.YtjebcgbmlbemcaaGreatDoorPFnExecuteContractx7
namespace Go.Proofs.YtjebcgbmlbemcaaGreatDoor.PFnExecuteContract
open Go.RowKit Go.Proofs.YtjebcgbmlbemcaaGreatDoorW.PrintWords Go.Proofs.YtjebcgbmlbemcaaGreatDoorW.PrintLast Go.Proofs.YtjebcgbmlbemcaaGreatDoorW.PrintMore
set_option maxHeartbeats 8000000
set_option maxRecDepth 100000
attribute [local go_sem] max2_int min2_int max_two min_two max_three min_three max_four min_four
set_option linter.unusedVariables false
set_option linter.unusedSimpArgs false
def i2_.j0:Nat→Int→Bool→List Int→List Int→Option (List Int×List Int×Bool)
  | 0,_,_,_,_=>none
  | k+1,x1,ag,ac,aa=>if ag=true then (some (([]:List Int),([]:List Int),false)) else ((ia_.f k ac aa).bind fun ab=>(if 0≤x1 then (if x1<(ab.length:Int) then (if 0≤(rd ab x1) then (if (rd ab x1)<(aa.length:Int) then ((ib_.f k ac aa (rd ab x1) (rd aa (rd ab x1))).bind fun af=>(some (af.1,af.2,true))) else (none)) else (none)) else (none)) else (none)))
def i2_.f (k:Nat) (ab:List Int) (aa:List Int) (a1:Int):Option (List Int×List Int×Bool):=(i4_.f k ab aa a1).bind fun ac=>(if ac=(-1) then (i2_.j0 k a1 true ab aa) else (if ac=2 then (i2_.j0 k a1 true ab aa) else (i2_.j0 k a1 ((aa.length:Int) == 2) ab aa)))
theorem i2_.calls (k:Nat) (aq:Option Addr) (ar:Nat) (ag:List Int) (aJ:Option Addr) (au:Nat) (ac:List Int) (a1:Int) (r1:List Int) (r2:List Int) (r3:Bool) (w:World) (bh:Kd.C (Kd.int .i64) w aq ag.length ag) (bi:ag.length≤ar) (bj:Kd.C (Kd.int .i64) w aJ ac.length ac) (bk:ac.length≤au) (h:i2_.f k ag ac a1=some (r1,r2,r3)) :
    Calls Tryz.prog 19 #[.agg #[.slice aq ag.length ar,.slice aJ ac.length au],.int .i64 a1] w fun e w' => ∃ v0_ v1_:Value,e = .returned (.tuple #[.agg #[v0_,v1_],.bool r3])∧Kd.R (Kd.int .i64) 3 w' w.heap.size (fun k_=>nO k_ v1_) v0_ r1∧Kd.R (Kd.int .i64) 3 w' w.heap.size (fun k_=>nO k_ v0_) v1_ r2∧Below w.heap.size w w':=by
 have dk:=Tryz.underlying25;have aW:=A0_ bh;have aX:=A0_ bi;clear bh bi;have aM:=A0_ bj;have aY:=A0_ bk;clear bj bk
 have HB:=A0_ (Below.refl w.heap.size w)
 have H:((i4_.f k ag ac a1).bind fun al=>(if al=(-1) then (i2_.j0 k a1 true ag ac) else (if al=2 then (i2_.j0 k a1 true ag ac) else (i2_.j0 k a1 ((ac.length:Int) == 2) ag ac))))=some (r1,r2,r3):=h
 clear h;obtain⟨al,A3,H⟩:=zbind H;have bq:=A0_ H;clear H
 go_enter Tryz.func19,Tryz.ntmps19
 go_upto_region 2 with(first|((with_reducible refine gD (N:=2) rfl ?_);refine zX (N:=2) (cs := #[.slice aq ag.length ar,.slice aJ ac.length au]) (t:=25) ?_;intro ao hg w5 hbox hb;have aa:=A0_ (hbox);have cG:=zG hg HB;have cH:=zG hg HB;replace HB:=zB HB hb;clear hb hbox hg)|((with_reducible refine gD (N:=4) rfl ?_);refine zX (N:=4) (cs := #[.slice none 0 0,.slice none 0 0]) (t:=25) ?_;intro aj hg w6 hbox hb;have ab:=A0_ (hbox);have cI:=zG hg HB;have cJ:=zG hg HB;replace HB:=zB HB hb;have av:=zL hg aa;have aw:=zM hg aa;replace aa:=zK aa hb;clear hb hbox hg;have dl:=av.out;have dn:=aw.out;have br:=zc0 aa;have bu:=zc1 aa;have bv:=kF aa.out 0;have bx:=kF aa.out 1)|((with_reducible refine gC (f:=47) rfl ?_);refine zJ (some 11) Tryz.func47 #[.agg #[.slice aq ag.length ar,.slice aJ ac.length au],.int .i64 a1] ?_;(with_reducible refine(i4_.calls k _ _ ag _ _ ac a1 al _ ?aD ?aE ?aG ?aH A3.out).mono ?_);(case aD=>exact zC aW HB);(case aE=>exact aX.out);(case aG=>exact zC aM HB);(case aH=>exact aY.out);rintro e w9 ⟨rfl,hb⟩;refine⟨_,rfl,?_⟩;replace aa:=zK aa hb;replace ab:=zK ab hb;replace HB:=zB HB hb;(try clear hb)))
 (try simp only [Act.put,List.setIfInBounds_toArray,List.set_cons_zero,List.set_cons_succ])
 go_cut [23] (fun v23 wc => ∃ (kq:Nat) (aN:Bool),v23 = .bool aN∧Aside0 (i2_.j0 kq a1 aN ag ac=some (r1,r2,r3))∧Aside0 (kq≤k)∧Aside0 (wc.heap[ao]? = some (.cells #[(.slice aq ag.length ar),(.slice aJ ac.length au)] 25 (0,0)))∧Aside0 (wc.heap[aj]? = some (.cells #[(.slice none 0 0),(.slice none 0 0)] 25 (0,0)))∧Aside0 (Below w.heap.size w wc))
 case first =>
  have H:=bq.out;clear bq
  by_cases aQ:al=(-1)
  ·rw [if_pos aQ] at H
   have aI:(al == (-1))=true:=beq_iff_eq.mpr aQ
   have bB:(al != (-1))=false:=bne_eq_false_iff_eq.mpr aQ
   clear aQ
   (first|rw [aI]|(simp only [i64_w,i32_w];rw [aI])|skip)
   have H':=A0_ H;clear H
   go_wp2
   go_meet
   case rel=>exact⟨_,(true),zt,H',zo,⟨zK_ aa⟩,⟨zK_ ab⟩,⟨zB_ HB⟩⟩
  rw [if_neg aQ] at H
  have aI:(al == (-1))=false:=beq_eq_false_iff_ne.mpr aQ
  have bB:(al != (-1))=true:=bne_iff_ne.mpr aQ
  (first|rw [aI]|(simp only [i64_w,i32_w];rw [aI])|skip)
  by_cases aT:al=2
  ·rw [if_pos aT] at H
   have bC:(al == 2)=true:=beq_iff_eq.mpr aT
   have bE:(al != 2)=false:=bne_eq_false_iff_eq.mpr aT
   clear aT;have H':=A0_ H;clear H
   go_wp2
   go_meet
   case rel=>exact⟨_,(true),zt,H',zo,⟨zK_ aa⟩,⟨zK_ ab⟩,⟨zB_ HB⟩⟩
  rw [if_neg aT] at H
  have bC:(al == 2)=false:=beq_eq_false_iff_ne.mpr aT
  have bE:(al != 2)=true:=bne_iff_ne.mpr aT
  have H':=A0_ H;clear H;have cK:=av.out;have cL:=aw.out;have bV:=zc0 aa;have bW:=zc1 aa;have bX:=kF aa.out 0;have bY:=kF aa.out 1
  go_wp2
  go_meet
  case rel=>exact⟨_,(((ac.length:Int) == 2)),zt,H',zo,⟨zK_ aa⟩,⟨zK_ ab⟩,⟨zB_ HB⟩⟩
 case rest =>
  clear bq;(try clear br);(try clear bu);(try clear bv);(try clear bx);obtain⟨kq,aN,rfl,HA,dv,aa,ab,HB⟩:=hcut
  cases kq with
  | zero=>exact absurd HA.out (by simp [i2_.j0])
  | succ bl =>
   have H:=HA.out;clear HA;simp only [i2_.j0] at H
   by_cases bm:aN=true
   ·subst bm
    have H1:(some (([]:List Int),([]:List Int),false))=some (r1,r2,r3):=by rw [if_pos rfl] at H;exact H
    clear H;have H:=H1;clear H1;simp only [Option.some.injEq,Prod.mk.injEq] at H;obtain⟨rfl,rfl,rfl⟩:=H;have cM:=aw.out;have cO:=av.out;have b5:=zc0 ab;have b6:=zc1 ab;have b7:=kF ab.out 0;have b8:=kF ab.out 1
    go_wp2
    refine bodyPost_ret (results_ct rfl _ _ aj 25 #[.slice none 0 0,.slice none 0 0] (0,0) _ rfl (by refine zbp (cs := #[.slice none 0 0,.slice none 0 0]) ?_ 1 _ rfl;refine zbp (cs := #[.slice none 0 0,.slice none 0 0]) ?_ 0 _ rfl;exact zK_ ab) Tryz.underlying25 rfl (by kernel_rfl)) rfl ?_
    exact⟨_,_,by first|rfl|(simp [*] <;> rfl),by first|exact Kd.R_nil _ _ _ _ _|exact Kd.N_nil _ _ _ _ _|exact Kd.V_nil _ _ _ _ _|exact Kd.Q_nil _ _ _ _ _|exact Kd.S_nil _ _ _ _ _,by first|exact Kd.R_nil _ _ _ _ _|exact Kd.N_nil _ _ _ _ _|exact Kd.V_nil _ _ _ _ _|exact Kd.Q_nil _ _ _ _ _|exact Kd.S_nil _ _ _ _ _,zB_ HB⟩
   replace bm:=Bool.eq_false_iff.mpr bm;subst bm
   have H1:((ia_.f bl ag ac).bind fun af=>(if 0≤a1 then (if a1<(af.length:Int) then (if 0≤(rd af a1) then (if (rd af a1)<(ac.length:Int) then ((ib_.f bl ag ac (rd af a1) (rd ac (rd af a1))).bind fun bn=>(some (bn.1,bn.2,true))) else (none)) else (none)) else (none)) else (none)))=some (r1,r2,r3):=by rw [if_neg (show ¬ (false=true) by decide)] at H;exact H
   clear H;have H:=H1;clear H1;obtain⟨af,cE,H⟩:=zbind H
   have bJ:=zpc H;replace H:=zph H
   have cP:=dT bJ;clear bJ
   have bK:=zpc H;replace H:=zph H
   have cQ:=dT bK;clear bK
   have bL:=zpc H;replace H:=zph H
   have cR:=dT bL;clear bL
   have bM:=zpc H;replace H:=zph H
   have cS:=dT bM;clear bM;obtain⟨⟨aU,aZ⟩,cF,H⟩:=zbind H;dsimp only at H;simp only [Option.some.injEq,Prod.mk.injEq] at H;obtain⟨rfl,rfl,rfl⟩:=H;have cT:=av.out;have cU:=aw.out;have b9:=zc0 aa;have cd:=zc1 aa;have ce:=kF aa.out 0;have cf:=kF aa.out 1
   go_wp2_with (first|((with_reducible refine gC (f:=48) rfl ?_);refine zJ (some 26) Tryz.func48 #[.agg #[.slice aq ag.length ar,.slice aJ ac.length au]] ?_;(with_reducible refine(ia_.calls bl _ _ ag _ _ ac af _ ?aD ?aE ?aG ?aH cE.out).mono ?_);(case aD=>exact zC aW HB);(case aE=>exact aX.out);(case aG=>exact zC aM HB);(case aH=>exact aY.out);rintro e w25 ⟨dp,rfl,aV,hb⟩;refine⟨_,rfl,?_⟩;have am:=A0_ (rL aV (bZ (zB_ HB)));replace aa:=zK aa hb;replace ab:=zK ab hb;replace HB:=zB HB hb;(try clear hb);(try clear aV);obtain⟨dq,dr,bO⟩:=rS am.out;subst bO;have bb:0≤(a1:Int):=zd;have bc:a1<(af.length:Int):=zd;obtain⟨cV,bP,cg⟩:=tI (rR am.out).2.2 a1 bb bc;cases bP;replace bb:=eq_true bb;replace bc:=eq_true bc)|((with_reducible refine gD (N:=7) rfl ?_);refine zX (N:=7) (cs := #[.int .i64 0]) (t:=3) ?_;intro ai hg w27 hbox hb;replace am:=A0_ (rB (Kd.R_elderB (zR_ am) ai (Nat.le_of_eq hg.symm)) hb);have ak:=A0_ (hbox);have bF:=zG hg HB;have cW:=zG hg HB;replace HB:=zB HB hb;have ax:=zL hg aa;have a6:=zM hg aa;replace aa:=zK aa hb;have ay:=zL hg ab;have a7:=zM hg ab;replace ab:=zK ab hb;clear hb hbox hg;have cX:=a6.out;have cY:=ax.out;have cZ:=a7.out;have da:=ay.out;have ch:w27.cell? ⟨ai,0,none⟩=some (.int .i64 0):=(kC ak.out 0).trans rfl;have ci:=kF ak.out 0;have cj:=zc0 aa;have ck:=zc1 aa;have cl:=kF aa.out 0;have cm:=kF aa.out 1;have bd:0≤((rd af a1):Int):=zd;have be:(rd af a1)<(ac.length:Int):=zd;obtain⟨aC,bQ,ap⟩:=tI aM.out (rd af a1) bd be;cases bQ;have hn284_0:aC.block≠ai:=Nat.ne_of_lt (Nat.lt_of_lt_of_le (by have:=wL _ _ ap;first|rwa [add_block] at this|exact this) bF.out);try replace ap:=(HB.out.cell (wL w _ ap)).trans ap;replace ap:=(cell_far (p:=⟨ai,0,none⟩) (by first|(rw [add_block];exact hn284_0)|(show(Addr.add _ _).block≠_;rw [add_block];exact hn284_0)|exact hn284_0) (.int .i64 (rd af a1))).trans ap;clear hn284_0;replace bd:=eq_true bd;replace be:=eq_true be)|((with_reducible refine gD (N:=8) rfl ?_);refine zX (N:=8) (cs := #[.int .i64 0]) (t:=3) ?_;intro ah hg w32 hbox hb;replace am:=A0_ (rB (Kd.R_elderB (by(with_reducible repeat(first|apply rA|apply rN|apply rD));exact(rM (rF (p:=⟨ai,0,none⟩) (rM am.out (fun k_ hk=>(⟨hk,hk.2⟩:_∧k_≠ai))) (fun _ hk=>hk.2) (.int .i64 (rd af a1))) (fun _ h_=>h_.1))) ah (Nat.le_of_eq hg.symm)) hb);have az:=A0_ (hbox);have db:=zG hg HB;have dc:=zG hg HB;replace HB:=zB HB hb;have aA:=A0_ ((by rw [hg];exact Nat.ne_of_lt (kL (g:=ao) (o := .cells #[.slice aq ag.length ar,.slice (some aC) ac.length au] 25 (0,0)) (by refine zbf ?_ _ (hp:=by exact ax.out);exact zK_ aa)):ao≠ah));have a8:=A0_ ((by rw [hg];exact Nat.ne_of_gt (kL (g:=ao) (o := .cells #[.slice aq ag.length ar,.slice (some aC) ac.length au] 25 (0,0)) (by refine zbf ?_ _ (hp:=by exact ax.out);exact zK_ aa)):ah≠ao));replace aa:=A0_ (kB (g:=ao) (o := .cells #[.slice aq ag.length ar,.slice (some aC) ac.length au] 25 (0,0)) (by refine zbf ?_ _ (hp:=by exact ax.out);exact zK_ aa) hb);have aK:=A0_ ((by rw [hg];exact Nat.ne_of_lt (kL (g:=aj) (o := .cells #[.slice none 0 0,.slice none 0 0] 25 (0,0)) (by refine zbf ?_ _ (hp:=by exact ay.out);exact zK_ ab)):aj≠ah));have a9:=A0_ ((by rw [hg];exact Nat.ne_of_gt (kL (g:=aj) (o := .cells #[.slice none 0 0,.slice none 0 0] 25 (0,0)) (by refine zbf ?_ _ (hp:=by exact ay.out);exact zK_ ab)):ah≠aj));replace ab:=A0_ (kB (g:=aj) (o := .cells #[.slice none 0 0,.slice none 0 0] 25 (0,0)) (by refine zbf ?_ _ (hp:=by exact ay.out);exact zK_ ab) hb);have an:=A0_ ((by rw [hg];exact Nat.ne_of_lt (kL (g:=ai) (o := .cells #[.int .i64 (rd af a1)] 3 (0,0)) (by refine zbp (cs := #[.int .i64 0]) ?_ 0 _ rfl;exact zK_ ak)):ai≠ah));have ba:=A0_ ((by rw [hg];exact Nat.ne_of_gt (kL (g:=ai) (o := .cells #[.int .i64 (rd af a1)] 3 (0,0)) (by refine zbp (cs := #[.int .i64 0]) ?_ 0 _ rfl;exact zK_ ak)):ah≠ai));replace ak:=A0_ (kB (g:=ai) (o := .cells #[.int .i64 (rd af a1)] 3 (0,0)) (by refine zbp (cs := #[.int .i64 0]) ?_ 0 _ rfl;exact zK_ ak) hb);clear hb hbox hg;have dd:=a8.out;have de:=aA.out;have df:=a9.out;have dh:=aK.out;have di:=ba.out;have dj:=an.out;have cn:w32.cell? ⟨ah,0,none⟩=some (.int .i64 0):=(kC az.out 0).trans rfl;have cp:=kF az.out 0;have cq:=zc0 aa;have cr:=zc1 aa;have ct:=kF aa.out 0;have cu:=kF aa.out 1;have cv:w32.cell? ⟨ai,0,none⟩=some (.int .i64 (rd af a1)):=(kC ak.out 0).trans rfl;have cw:=kF ak.out 0)|((with_reducible refine gC (f:=49) rfl ?_);refine zJ (some 39) Tryz.func49 #[.agg #[.slice aq ag.length ar,.slice (some aC) ac.length au],.int .i64 (rd af a1),.int .i64 (rd ac (rd af a1)),.func (.func 50) #[] #[.pointer (some ⟨ai,0,none⟩),.pointer (some ⟨ah,0,none⟩),.pointer (some ⟨ao,0,none⟩)]] ?_;(with_reducible refine(ib_.calls bl _ _ ag _ _ ac (rd af a1) (rd ac (rd af a1)) aU aZ _ ?aD ?aE ?aG ?aH ai ah ao ?bG ?bH ?bI cF.out).mono ?_);(case aD=>exact cB aW.out (zB_ HB));(case aE=>exact aX.out);(case aG=>exact cB aM.out (zB_ HB));(case aH=>exact aY.out);(case bG=>exact(by refine zbf ?_ _ (hp:=by exact an.out);exact zK_ ak));(case bH=>exact(by refine zbp (cs := #[.int .i64 0]) ?_ 0 _ rfl;exact zK_ az));(case bI=>exact(by refine zbf ?_ _ (hp:=by exact aA.out);exact zK_ aa));rintro e w39 ⟨dt,du,rfl,aV,bz,hb⟩;refine⟨_,rfl,?_⟩;have bo:=A0_ (rL (Kd.R_newB (Kd.R_newB (Kd.R_new' aV (rX (by(with_reducible repeat(first|apply rA|apply rN|apply rD));exact(rM (rF (p:=⟨ah,0,none⟩) (rM am.out (fun k_ hk=>(⟨hk,hk.2⟩:_∧k_≠ah))) (fun _ hk=>hk.2) (.int .i64 (rd ac (rd af a1)))) (fun _ h_=>h_.1))))) (g:=ai) (o := .cells #[.int .i64 (rd af a1)] 3 (0,0)) (by refine zbf ?_ _ (hp:=by exact an.out);exact zK_ ak)) (g:=ah) (o := .cells #[.int .i64 (rd ac (rd af a1))] 3 (0,0)) (by refine zbp (cs := #[.int .i64 0]) ?_ 0 _ rfl;exact zK_ az)) (bZ (zB_ HB)));have bp:=A0_ (rL (Kd.R_newB (Kd.R_newB (Kd.R_new' bz (rX (by(with_reducible repeat(first|apply rA|apply rN|apply rD));exact(rM (rF (p:=⟨ah,0,none⟩) (rM am.out (fun k_ hk=>(⟨hk,hk.2⟩:_∧k_≠ah))) (fun _ hk=>hk.2) (.int .i64 (rd ac (rd af a1)))) (fun _ h_=>h_.1))))) (g:=ai) (o := .cells #[.int .i64 (rd af a1)] 3 (0,0)) (by refine zbf ?_ _ (hp:=by exact an.out);exact zK_ ak)) (g:=ah) (o := .cells #[.int .i64 (rd ac (rd af a1))] 3 (0,0)) (by refine zbp (cs := #[.int .i64 0]) ?_ 0 _ rfl;exact zK_ az)) (bZ (zB_ HB)));replace am:=A0_ (rM (rT (rT (rO (by(with_reducible repeat(first|apply rA|apply rN|apply rD));exact(rM (rF (p:=⟨ah,0,none⟩) (rM am.out (fun k_ hk=>(⟨hk,hk.2⟩:_∧k_≠ah))) (fun _ hk=>hk.2) (.int .i64 (rd ac (rd af a1)))) (fun _ h_=>h_.1))) hb) (Kd.R_base aV)) (Kd.R_base bz)) (fun _ h_=>h_.1));replace aa:=A0_ (kB (g:=ao) (o := .cells #[.slice aq ag.length ar,.slice (some aC) ac.length au] 25 (0,0)) (by refine zbf ?_ _ (hp:=by exact aA.out);exact zK_ aa) hb);replace ab:=A0_ (kB (g:=aj) (o := .cells #[.slice none 0 0,.slice none 0 0] 25 (0,0)) (by refine zbf ?_ _ (hp:=by exact aK.out);exact zK_ ab) hb);replace ak:=A0_ (kB (g:=ai) (o := .cells #[.int .i64 (rd af a1)] 3 (0,0)) (by refine zbf ?_ _ (hp:=by exact an.out);exact zK_ ak) hb);replace az:=A0_ (kB (g:=ah) (o := .cells #[.int .i64 (rd ac (rd af a1))] 3 (0,0)) (by refine zbp (cs := #[.int .i64 0]) ?_ 0 _ rfl;exact zK_ az) hb);replace HB:=zB HB hb;(try clear hb);(try clear aV);(try clear bz);obtain⟨a4,a5,bR⟩:=rS bo.out;subst bR;have cx:=zc0 ab;have cy:=zc1 ab;have cz:=kF ab.out 0;have cC:=kF ab.out 1;obtain⟨bf,bg,bU⟩:=rS bp.out;subst bU))
   refine bodyPost_ret (results_ct rfl _ _ aj 25 #[.slice a4 aU.length a5,.slice bf aZ.length bg] (0,0) _ rfl (by refine zbp (cs := #[.slice a4 aU.length a5,.slice none 0 0]) ?_ 1 _ rfl;refine zbp (cs := #[.slice none 0 0,.slice none 0 0]) ?_ 0 _ rfl;exact zK_ ab) Tryz.underlying25 rfl (by kernel_rfl)) rfl ?_
   exact⟨_,_,by first|rfl|(simp [*] <;> rfl),by(with_reducible repeat(first|apply rA|apply rN|apply rD));exact rM (rF (p:=⟨aj,1,none⟩) (rF (p:=⟨aj,0,none⟩) (rY bo.out ab.out (by decide)) (fun _ hk=>hk.2) (.slice a4 aU.length a5)) (fun _ hk=>hk.2) (.slice bf aZ.length bg)) (fun _ hk=>hk.1.1.1.1),by(with_reducible repeat(first|apply rA|apply rN|apply rD));exact rM (rF (p:=⟨aj,1,none⟩) (rF (p:=⟨aj,0,none⟩) (rY bp.out ab.out (by decide)) (fun _ hk=>hk.2) (.slice a4 aU.length a5)) (fun _ hk=>hk.2) (.slice bf aZ.length bg)) (fun _ hk=>hk.1.1.1.1),zB_ HB⟩
def i7_.sg (i:Int):ByteArray:=if i=0 then ⟨#[40]⟩ else ⟨#[44]⟩
def i7_.dg (n:Int):ByteArray:=⟨(Lib.decDigits n.toNat).toArray⟩
def i7_.inner:Int→List Int→Option ByteArray
  | _,[]=>some ⟨#[]⟩
  | i,n :: c=>if 0≤n∧n<100 then (i7_.inner (i+1) c).bind fun t=>some ((i7_.sg i ++ i7_.dg n) ++ t) else none
def i7_.outer:List (List Int)→Option ByteArray
  | []=>some ⟨#[]⟩
  | c :: cs=>if c.length<2 then i7_.outer cs else (i7_.inner 0 c).bind fun t=>(i7_.outer cs).bind fun u=>some (t ++ (⟨#[41]⟩ ++ u))
def i7_.f (k:Nat) (l0:List Int):Option ByteArray:=(i8_.f l0).bind fun ok=>(if ok=true then (i9_.f k l0).bind fun cs=>(i7_.outer cs).bind fun t=>(if t.size≤100000∧cs.length≤1000 ∧ ∀ c ∈ cs,c.length≤1000 then (if t.size=0 then some ⟨#[40,41]⟩ else some t) else none) else some ⟨#[]⟩)
theorem i7_.sg_size (i:Int):(i7_.sg i).size=1:=by unfold i7_.sg;split <;> rfl
theorem i7_.dg_size (n:Int) (h:n<100):(i7_.dg n).size≤2:=XE.digits_size _ (by omega)
theorem i7_.rows_others {w w':World} {B o:Nat} {v:Value} {xs:List (List Int)} (h:Kd.S (Kd.slice 3 (Kd.int .i64)) 23 w B (fun _=>True) v xs) (ho : ∃ c,w.heap[o]? = some (.cells c 52 (0,0))) (hk:Lib.OthersKept 5 (some o) w w'):Kd.S (Kd.slice 3 (Kd.int .i64)) 23 w' B (fun _=>True) v xs:=by
  obtain⟨co,ho⟩:=ho
  refine sM (Kd.S_step (Kd.S_bound h) (fun k ⟨_,_,_,q,hq,c,hc⟩ _ => ?_)) (fun _ _=>trivial)
  have hq':q=23∨q=3:=by simpa [Kd.slice,Kd.int,Kd.scalar] using hq
  rw [hk k _ hc ?_ ?_,hc]
  · intro e;obtain rfl:=sI e;rw [ho] at hc;rcases hq' with rfl|rfl <;> simp at hc
  intro c' fz e;rcases hq' with rfl|rfl <;> simp at e
theorem i7_.row_at {w:World} {A:Option Addr} {n:Nat} {xs:List (List Int)} (h:Kd.C (Kd.slice 3 (Kd.int .i64)) w A n xs) (i:Int) (h0:0≤i) (h1:i<n) : ∃ ad A0 c0,A=some ad∧w.cell? (ad.add i.toNat)=some (.slice A0 (xs.getD i.toNat []).length c0)∧(xs.getD i.toNat []).length≤c0∧(Kd.int .i64).C w A0 (xs.getD i.toNat []).length (xs.getD i.toNat []):=by
  obtain⟨ad,c,e,_,hK,aa⟩:=Kd.C_get h ([]:List Int) i h0 h1
  have hc : ∀ j u,c[j]? = some u→w.cell? (ad.add (i.toNat*1+j))=some u:=aa
  obtain⟨A0,c0,rfl,l0,g0⟩:=hK
  exact⟨ad,A0,c0,e,by have hq:=hc 0 _ rfl;rwa [Nat.mul_one,Nat.add_zero] at hq,l0,g0⟩
/-- What holds at the head of a round of the outer loop. -/
def i7_.RO (w:World) (B b:Nat) (v:Value) (cs:List (List Int)) (fin:ByteArray) (i:Int) (wr:World):Prop :=
  0≤i∧i≤cs.length ∧ ∃ o rest,i7_.outer (cs.drop i.toNat)=some rest∧o ++ rest=fin∧Lib.IsBuilder 52 5 B b (Lib.strCells o) wr∧Kd.S (Kd.slice 3 (Kd.int .i64)) 23 wr b (fun _=>True) v cs∧Below w.heap.size w wr
def i7_.RI (w:World) (B b:Nat) (v:Value) (cs:List (List Int)) (fin:ByteArray) (c:List Int) (rest:ByteArray) (p:Addr) (u:Value) (x:Int) (wr:World):Prop :=
  wr.cell? p=some u∧0≤x∧x≤c.length ∧ ∃ o t,i7_.inner x (c.drop x.toNat)=some t∧o ++ (t ++ (⟨#[41]⟩ ++ rest))=fin∧Lib.IsBuilder 52 5 B b (Lib.strCells o) wr∧Kd.S (Kd.slice 3 (Kd.int .i64)) 23 wr b (fun _=>True) v cs∧Below w.heap.size w wr
theorem i7_.outer_step {cs:List (List Int)} {i:Int} (h0:0≤i) (h1:i<cs.length) {rest:ByteArray} (h:i7_.outer (cs.drop i.toNat)=some rest) :
    ((cs.getD i.toNat []).length<2∧i7_.outer (cs.drop (i+1).toNat)=some rest)∨(¬ (cs.getD i.toNat []).length<2 ∧ ∃ t u,i7_.inner 0 (cs.getD i.toNat [])=some t∧i7_.outer (cs.drop (i+1).toNat)=some u∧rest=t ++ (⟨#[41]⟩ ++ u)):=by
  have hi:i.toNat<cs.length:=by omega
  rw [List.drop_eq_getElem_cons hi,show i.toNat+1=(i+1).toNat by omega] at h
  have e:cs.getD i.toNat []=cs[i.toNat]:=by simp [List.getD,hi]
  rw [e]
  simp only [i7_.outer] at h
  split at h
  · rename_i hl;exact .inl ⟨hl,h⟩
  rename_i hl
  obtain⟨t,h1,h⟩:=Option.bind_eq_some_iff.1 h;obtain⟨u,h2,h⟩:=Option.bind_eq_some_iff.1 h
  exact .inr ⟨hl,t,u,h1,h2,(sI h).symm⟩
theorem i7_.inner_step {c:List Int} {x:Int} (h0:0≤x) (h1:x<c.length) {t:ByteArray} (h:i7_.inner x (c.drop x.toNat)=some t) :
    0≤rd c x∧rd c x<100 ∧ ∃ u,i7_.inner (x+1) (c.drop (x+1).toNat)=some u∧t=(i7_.sg x ++ i7_.dg (rd c x)) ++ u:=by
  have hi:x.toNat<c.length:=by omega
  rw [List.drop_eq_getElem_cons hi,show x.toNat+1=(x+1).toNat by omega] at h
  have e:rd c x=c[x.toNat]:=by simp [rd,List.getD,hi]
  simp only [i7_.inner] at h
  rw [← e] at h
  split at h
  · rename_i hl
    obtain⟨u,h2,h⟩:=Option.bind_eq_some_iff.1 h
    exact⟨hl.1,hl.2,u,h2,(sI h).symm⟩
  cases h
theorem i7_.cell_others {w w':World} {B o n cc:Nat} {ad:Addr} {xs:List (List Int)} (h:Kd.S (Kd.slice 3 (Kd.int .i64)) 23 w B (fun _=>True) (.slice (some ad) n cc) xs) (hk:Lib.OthersKept 5 (some o) w w') (ho : ∃ c,w.heap[o]? = some (.cells c 52 (0,0))) (j:Nat):w'.cell? (ad.add j)=w.cell? (ad.add j):=by
  obtain⟨co,ho⟩:=ho
  obtain⟨g,rfl⟩:=Kd.R_head (Kd.S_R h)
  obtain⟨c,hc⟩:=Kd.S_typed h g rfl
  rw [show(⟨g,0,none⟩:Addr).add j=⟨g,j,none⟩ by simp [Addr.add] <;> exact fun h=>h.symm]
  refine World.cell?_of_block ?_
  show w'.heap[g]? = w.heap[g]?
  refine(hk g _ hc ?_ ?_).trans hc.symm
  · intro e;obtain rfl:=sI e;rw [ho] at hc;simp at hc
  intro c' fz e;simp at e
theorem i7_.inner_nil (x:Int):i7_.inner x []=some ⟨#[]⟩:=by unfold i7_.inner;rfl
theorem i7_.nil_app (x:ByteArray):(⟨#[]⟩:ByteArray) ++ x=x:=by
  show ByteArray.empty ++ x=x
  simp
theorem i7_.app_nil (x:ByteArray):x ++ (⟨#[]⟩:ByteArray)=x:=by
  show x ++ ByteArray.empty=x
  simp
theorem i7_.calls (k:Nat) (A0:Option Addr) (c0:Nat) (l0:List Int) (r:ByteArray) (w:World) (ac:Kd.C (Kd.int .i64) w A0 l0.length l0) (af:l0.length≤c0) (h:i7_.f k l0=some r) :
    Calls Tryz.prog 37 #[.slice A0 l0.length c0] w fun e w'=>e = .returned (.string r)∧Below w.heap.size w w':=by
  unfold i7_.f at h
  obtain⟨ok,h1,hq⟩:=Option.bind_eq_some_iff.1 h;clear h
  have H1:=Lib.hid h1;clear h1
  have HR:=A0_ ac;have HC:=A0_ af;clear ac af
  cases ok with
  | false =>
    obtain rfl:(⟨#[]⟩:ByteArray)=r:=by simpa using hq
    clear hq
    go_enter Tryz.func37,Tryz.ntmps37
    go_wp2_with (go_at_call 58;(with_reducible refine(i8_.calls A0 c0 l0 false _ HR.out HC.out H1.out).mono ?_);rintro e w1 ⟨rfl,hb1⟩)
    go_ret
    exact⟨rfl,hb1⟩
  | true =>
    rw [if_pos rfl] at hq;obtain⟨cs,h2,hs⟩:=Option.bind_eq_some_iff.1 hq;clear hq;obtain⟨t,h3,h⟩:=Option.bind_eq_some_iff.1 hs;clear hs
    have hg:t.size≤100000∧cs.length≤1000 ∧ ∀ c ∈ cs,c.length≤1000:=by
      by_cases hg:t.size≤100000∧cs.length≤1000 ∧ ∀ c ∈ cs,c.length≤1000
      · exact hg
      rw [if_neg hg] at h;cases h
    rw [if_pos hg] at h;obtain⟨hts,hcl,hcc⟩:=hg
    have HCC:=A0_ hcc;clear hcc
    have H2:=Lib.hid h2;clear h2
    have H3:=Lib.hid h3;clear h3
    have HH:=A0_ h;clear h
    go_enter Tryz.func37,Tryz.ntmps37
    go_wp2_with (first
      | (go_at_call 58;(with_reducible refine(i8_.calls A0 c0 l0 true _ HR.out HC.out H1.out).mono ?_);rintro e w1 ⟨rfl,hb1⟩)
      | (go_at_call 81;(with_reducible refine(i9_.calls k A0 c0 l0 cs _ (cA (cB HR.out hb1) _) HC.out H2.out).mono ?_);rintro e w3 ⟨v0,rfl,hS,hb3⟩;obtain⟨A,cc,rfl⟩:=Kd.S_slice hS))
    have hz1:(w1.alloc (.cells #[.pointer none,.slice none 0 0] 52)).heap.size=w1.heap.size+1:=by simp
    have hbk:w3.heap[w1.heap.size]? = some (.cells #[.pointer none,.slice none 0 0] 52 (0,0)):=(hb3.block _ (by rw [hz1];omega)).trans (heap_alloc_new _ _)
    have RS:i7_.RO w w.heap.size w1.heap.size (.slice A cs.length cc) cs t 0 w3:=by
      refine⟨Int.le_refl _,by omega,⟨#[]⟩,t,by simpa using H3.out,i7_.nil_app t,.inl ⟨hb1.size,_,hbk,World.ownsRow_nil _ _ _ _,by simp [Value.ownBlock]⟩,Kd.S_lower hS (by rw [hz1];omega),?_⟩
      exact(hb1.alloc hb1.size _).trans (hb3.mono (by rw [hz1];have:=hb1.size;omega))
    clear hS hbk;have hz0:=hb1.size;clear hb3 hz1 hb1
    go_loopw [15] (fun i wr => ∃ x:Int,i = .int .i64 x∧i7_.RO w w.heap.size w1.heap.size (.slice A cs.length cc) cs t x wr) (fun i _=>cs.length - (RowKit.intOf i).toNat)
    case atStart=>exact⟨0,rfl,RS⟩
    case round =>
      clear RS;obtain⟨x,rfl,x0,x1,o,rest,g1,g2,g3,g4,g5⟩:=hrel
      have G1:=Lib.hid g1;clear g1
      have G2:=Lib.hid g2;clear g2
      by_cases hlt:x<cs.length
      · obtain⟨-,hcap,hC⟩:=Kd.S_reads' g4
        obtain⟨ad,A1,c1,ea,hx,ah,hC1⟩:=i7_.row_at hC x x0 hlt;subst ea
        have hos:=i7_.outer_step x0 hlt G1.out
        have hcm:(cs.getD x.toNat []).length≤1000:=HCC.out _ (by rw [List.getD_eq_getElem?_getD,List.getElem?_eq_getElem (by omega)];exact List.getElem_mem _)
        obtain⟨c,hce⟩ : ∃ c,cs.getD x.toNat []=c:=⟨_,rfl⟩
        rw [hce] at hx ah hC1 hos hcm
        have HCE:=Lib.hid hce;clear hce
        have ai:=A0_ hC1;clear hC1 hC
        have p1:=eq_true x0;have p2:=eq_true hlt
        rcases hos with⟨hl,g⟩|⟨hl,tt,u,gi,gu,ge⟩
        · have HG:=Lib.hid g;clear g
          go_wp2
          go_roundw
          case rel=>exact⟨x+1,by go_num,by omega,by omega,o,rest,HG.out,G2.out,g3,g4,g5⟩
          case measure=>simp [RowKit.intOf];omega
        have HGI:=Lib.hid gi;clear gi
        have HGU:=Lib.hid gu;clear gu
        have RI0:i7_.RI w w.heap.size w1.heap.size (.slice (some ad) cs.length cc) cs t c u (ad.add x.toNat) (.slice A1 c.length c1) 0 wr:=⟨hx,Int.le_refl _,by omega,o,tt,by simpa using HGI.out,by rw [← ge];exact G2.out,g3,g4,g5⟩
        clear ge HGI G2 g3 g4 g5
        go_wp2
        clear hx ai p1 p2
        go_loopw [24] (fun i wq => ∃ y:Int,i = .int .i64 y∧i7_.RI w w.heap.size w1.heap.size (.slice (some ad) cs.length cc) cs t c u (ad.add x.toNat) (.slice A1 c.length c1) y wq) (fun i _=>c.length - (RowKit.intOf i).toNat)
        case atStart=>exact⟨0,rfl,RI0⟩
        case round =>
          clear RI0;obtain⟨y,rfl,hx,y0,y1,o2,t2,k1,k2,k3,k4,k5⟩:=hrel
          have K1:=Lib.hid k1;clear k1
          have K2:=Lib.hid k2;clear k2
          have hsz:(o2 ++ (t2 ++ (⟨#[41]⟩ ++ u))).size≤100000:=by rw [K2.out];exact hts
          rw [ByteArray.size_append,ByteArray.size_append,ByteArray.size_append,show(⟨#[41]⟩:ByteArray).size=1 from rfl] at hsz
          by_cases hly:y<c.length
          · obtain⟨n0,n1,u2,ag,he2⟩:=i7_.inner_step y0 hly K1.out
            have hC2:=(Kd.S_reads' k4).2.2
            obtain⟨ad',A2,c2,ea2,aa,_,hC3⟩:=i7_.row_at hC2 x x0 hlt
            cases ea2
            rw [HCE.out] at aa hC3
            have eA:A2=A1∧c2=c1:=by rw [hx] at aa;simp at aa;exact⟨aa.1.symm,aa.2.symm⟩
            obtain⟨rfl,rfl⟩:=eA;clear aa hC2;obtain⟨ae,e1,hxe⟩:=tI hC3 y y0 hly
            cases e1
            clear hC3
            obtain⟨m,hm⟩ : ∃ m:Nat,rd c y=m:=⟨(rd c y).toNat,by omega⟩
            rw [hm] at hxe n1 he2
            have hm1:m<100:=by omega
            have hdm:i7_.dg (m:Int)=⟨(Lib.decDigits m).toArray⟩:=by unfold i7_.dg;simp
            obtain⟨dm,hdm2⟩ : ∃ dm:ByteArray,(⟨(Lib.decDigits m).toArray⟩:ByteArray)=dm:=⟨_,rfl⟩
            have hds:dm.size≤2:=by rw [← hdm2];exact XE.digits_size m hm1
            have hit : ∀ w,Calls Tryz.prog 35 #[.int .i64 (m:Int)] w fun e w'=>e = .returned (.string dm)∧w'=w:=by intro w;rw [← hdm2];exact XS.itoa_small m hm1 w
            rw [hdm,hdm2] at he2
            have HM:=Lib.hid hm;clear hm hdm hdm2 n0 n1
            have HU2:=Lib.hid ag;clear ag
            have hz2:t2.size=1+dm.size+u2.size:=by rw [he2,ByteArray.size_append,ByteArray.size_append,i7_.sg_size]
            have KE:Hid ((o2 ++ (i7_.sg y ++ dm)) ++ (u2 ++ (⟨#[41]⟩ ++ u))=t):=by
              have:=K2.out
              rw [he2] at this
              rw [← this]
              show _=_
              simp only [ByteArray.append_assoc]
            clear he2
            have ab:=XE.Builder_ws k3 (i7_.sg y ++ dm) (by rw [Lib.strCells_length,ByteArray.size_append,i7_.sg_size];omega) k5.size
            have hblk:=XE.is_block k3;have p1:=eq_true y0;have p2:=eq_true hly
            have hws:(i7_.sg y ++ dm).size≤3:=by rw [ByteArray.size_append,i7_.sg_size];omega
            by_cases hy:y=0
            · have hb1:(y == 0)=true:=by simp [hy]
              have hb2:decide (y=0)=true:=by simp [hy]
              have hsg:i7_.sg y=⟨#[40]⟩:=by unfold i7_.sg;rw [if_pos hy]
              rw [hsg] at ab KE hws
              clear hsg
              have HYB:=Lib.hid hy;clear hy
              go_wp2_with (first
                | (go_at_call 35;(with_reducible refine(hit _).mono ?_);rintro e w' ⟨rfl,rfl⟩)
                | (go_at_call 33;(with_reducible refine ab.mono ?_);rintro e w4 ⟨rfl,b4,B4,q4⟩))
              go_roundw
              case rel=>exact⟨y+1,by go_num,(i7_.cell_others k4 q4 hblk _).trans hx,by omega,by omega,o2 ++ (⟨#[40]⟩ ++ dm),u2,HU2.out,KE.out,b4,i7_.rows_others k4 hblk q4,k5.trans B4⟩
              case measure=>simp [RowKit.intOf];omega
            have hb1:(y == 0)=false:=by simp [hy]
            have hb2:decide (y=0)=false:=by simp [hy]
            have hsg:i7_.sg y=⟨#[44]⟩:=by unfold i7_.sg;rw [if_neg hy]
            rw [hsg] at ab KE hws
            clear hsg
            have HYB:=Lib.hid hy;clear hy
            go_wp2_with (first
              | (go_at_call 35;(with_reducible refine(hit _).mono ?_);rintro e w' ⟨rfl,rfl⟩)
              | (go_at_call 33;(with_reducible refine ab.mono ?_);rintro e w4 ⟨rfl,b4,B4,q4⟩))
            go_roundw
            case rel=>exact⟨y+1,by go_num,(i7_.cell_others k4 q4 hblk _).trans hx,by omega,by omega,o2 ++ (⟨#[44]⟩ ++ dm),u2,HU2.out,KE.out,b4,i7_.rows_others k4 hblk q4,k5.trans B4⟩
            case measure=>simp [RowKit.intOf];omega
          have hnil:c.drop y.toNat = []:=List.drop_eq_nil_of_le (by omega)
          have ht2:t2=⟨#[]⟩:=by
            have:=K1.out
            rw [hnil,i7_.inner_nil] at this
            exact(sI this).symm
          have KE:Hid ((o2 ++ ⟨#[41]⟩) ++ u=t):=by
            have:=K2.out
            rw [ht2,i7_.nil_app] at this
            rw [← this]
            show _=_
            simp only [ByteArray.append_assoc]
          clear hnil ht2
          have ab:=XE.Builder_ws k3 ⟨#[41]⟩ (by rw [Lib.strCells_length,show(⟨#[41]⟩:ByteArray).size=1 from rfl];omega) k5.size
          have hblk:=XE.is_block k3
          go_wp2_with (go_at_call 33;(with_reducible refine ab.mono ?_);rintro e w4 ⟨rfl,b4,B4,q4⟩)
          go_roundw
          case rel=>exact⟨x+1,by go_num,by omega,by omega,o2 ++ ⟨#[41]⟩,u,HGU.out,KE.out,b4,i7_.rows_others k4 hblk q4,k5.trans B4⟩
          case measure=>simp [RowKit.intOf];omega
      have hnil:cs.drop x.toNat = []:=List.drop_eq_nil_of_le (by omega)
      have hrest:rest=⟨#[]⟩:=by
        have:=G1.out
        rw [hnil] at this
        exact(sI this).symm
      have hot:o=t:=by
        have:=G2.out
        rw [hrest,i7_.app_nil] at this
        exact this
      subst hot;clear hnil hrest G2 G1;have hlen:=XS.blen _ _ _ _ g3
      by_cases hz:o.size=0
      · have hr:(⟨#[40,41]⟩:ByteArray)=r:=by have:=HH.out;rw [if_pos hz] at this;exact sI this
        subst hr;rw [hz] at hlen
        have HZ:=Lib.hid hz;clear hz
        go_wp2_with (go_at_call 82;(with_reducible refine hlen.mono ?_);rintro e w' ⟨rfl,rfl⟩)
        go_ret
        exact⟨rfl,g5⟩
      have hr:o=r:=by have:=HH.out;rw [if_neg hz] at this;exact sI this
      have hb1:((o.size:Int) == 0)=false:=by rw [beq_eq_false_iff_ne];omega
      have hb2:decide ((o.size:Int)=0)=false:=dF (by omega)
      have HZ:=Lib.hid hz;clear hz
      subst hr
      have hstr:=XS.bstring _ _ _ _ g3 g5.size
      go_wp2_with (first
        | (go_at_call 82;(with_reducible refine hlen.mono ?_);rintro e w' ⟨rfl,rfl⟩)
        | (go_at_call 36;(with_reducible refine hstr.mono ?_);rintro e w4 ⟨rfl,B4⟩))
      go_ret
      exact⟨rfl,g5.trans B4⟩
mutual
def ic_.j0:Nat→ByteArray→Bool→Option (Int)
  | 0,_,_=>none
  | k+1,x0,aa=>if aa=true then (some (-1)) else (ic_.l0 k x0 0 (x0.size:Int) 0)
def ic_.l0:Nat→ByteArray→Int→Int→Int→Option (Int)
  | 0,_,_,_,_=>none
  | k+1,x0,x3,ab,aa=>if aa<ab then (if 0≤aa then (if aa<(x0.size:Int) then (if (bt x0 aa)<48 then (some (-1)) else (if (bt x0 aa)>57 then (some (-1)) else (ic_.l0 k x0 (wrap64 ((wrap64 (x3*10))+(((bt x0 aa) - 48) % 256))) ab (wrap64 (aa+1))))) else (none)) else (none)) else (some x3)
end
def ic_.f (k:Nat) (a0:ByteArray):Option (Int):=if (a0.size:Int)<1 then (ic_.j0 k a0 true) else (ic_.j0 k a0 (decide ((a0.size:Int)>2)))
theorem ic_.calls (k:Nat) (a0:ByteArray) (r:Int) (w:World) (h:ic_.f k a0=some r) :
    Calls Tryz.prog 65 #[.string a0] w fun e w'=>e = .returned (.int .i64 r)∧Drawn0 w w':=by
 have H:(if (a0.size:Int)<1 then (ic_.j0 k a0 true) else (ic_.j0 k a0 (decide ((a0.size:Int)>2))))=some r:=h
 clear h;have aj:=A0_ H;clear H
 go_enter Tryz.func65,Tryz.ntmps65
 go_upto_region 1 with(fail)
 go_cut [12] (fun v12 wc => ∃ (kq:Nat) (ab:Bool),v12 = .bool ab∧Aside0 (ic_.j0 kq a0 ab=some r)∧Aside0 (kq≤k)∧Drawn0 w wc)
 case first =>
  have H:=aj.out;clear aj
  by_cases c3:(a0.size:Int)<1
  ·rw [if_pos c3] at H
   have ac:=dT c3
   have ar:decide (a0.size<1)=true:=dT (by omega)
   clear c3
   (first|rw [ac]|(simp only [i64_w,i32_w];rw [ac])|skip)
   have H':=A0_ H;clear H
   go_wp2
   go_meet
   case rel=>exact⟨_,(true),zt,H',zo,by repeat(first|exact Drawn0.refl _|apply Drawn0.step)⟩
  rw [if_neg c3] at H;have ac:=dF c3
  have ar:decide (a0.size<1)=false:=dF (by omega)
  clear c3
  (first|rw [ac]|(simp only [i64_w,i32_w];rw [ac])|skip)
  have H':=A0_ H;clear H
  go_wp2
  go_meet
  case rel=>exact⟨_,(decide ((a0.size:Int)>2)),zt,H',zo,by repeat(first|exact Drawn0.refl _|apply Drawn0.step)⟩
 case rest =>
  clear aj;obtain⟨kq,ab,rfl,HA,al,⟨mc1,rfl⟩⟩:=hcut
  cases kq with
  | zero=>exact absurd HA.out (by simp [ic_.j0])
  | succ am =>
   have H:=HA.out;clear HA;simp only [ic_.j0] at H
   by_cases c4:ab=true
   ·subst c4
    rw [if_pos rfl] at H;obtain rfl:=sI H
    go_wp2
    go_ret
    exact⟨by first|rfl|(simp;done)|(simp [*];done),by repeat(first|exact Drawn0.refl _|apply Drawn0.step)⟩
   replace c4:=Bool.eq_false_iff.mpr c4;subst c4
   rw [if_neg (show ¬ (false=true) by decide)] at H
   have H':=A0_ H;clear H
   go_wp2
   go_loopg [3,15] am (fun kq v3 v15 w' => ∃ (ag:Int) (aa:Int),v3 = .int .i64 ag∧v15 = .int .i64 aa∧Aside0 (ic_.l0 kq a0 ag (a0.size:Int) aa=some r)∧Aside0 (kq≤am)∧Drawn0 w w')
   case atStart=>exact⟨(0),(0),zt,zt,H',⟨Nat.le_refl _⟩,by repeat(first|exact Drawn0.refl _|apply Drawn0.step)⟩
   case round =>
    clear H';(try clear c4);obtain⟨ag,aa,rfl,rfl,HA,an,⟨m2,rfl⟩⟩:=hrel
    cases gk with
    | zero=>exact absurd HA.out (by simp [ic_.l0])
    | succ k2 =>
     have H:=HA.out;clear HA;simp only [ic_.l0] at H
     by_cases c5:aa<(a0.size:Int)
     ·rw [if_pos c5] at H
      have au:=dT c5;clear c5
      have c6:=zpc H;replace H:=zph H
      have ax:=dT c6;clear c6
      have c7:=zpc H;replace H:=zph H
      have ay:=dT c7;clear c7
      by_cases c9:(bt a0 aa)<48
      ·rw [if_pos c9] at H
       have av:=dT c9;clear c9;obtain rfl:=sI H
       have p8:0≤(aa:Int):=zd
       have q8:aa<(a0.size:Int):=zd
       have ao:=bt_at a0 aa;replace p8:=eq_true p8;replace q8:=eq_true q8
       go_wp2
       go_ret
       exact⟨by first|rfl|(simp;done)|(simp [*];done),by repeat(first|exact Drawn0.refl _|apply Drawn0.step)⟩
      rw [if_neg c9] at H;have av:=dF c9;clear c9
      by_cases af:(bt a0 aa)>57
      ·rw [if_pos af] at H
       have ak:decide (57<(bt a0 aa))=true:=dT af
       clear af;obtain rfl:=sI H
       have p8:0≤(aa:Int):=zd
       have q8:aa<(a0.size:Int):=zd
       have ao:=bt_at a0 aa;replace p8:=eq_true p8;replace q8:=eq_true q8
       have ah:0≤(aa:Int):=zd
       have ai:aa<(a0.size:Int):=zd
       have aw:=bt_at a0 aa;replace ah:=eq_true ah;replace ai:=eq_true ai
       go_wp2
       go_ret
       exact⟨by first|rfl|(simp;done)|(simp [*];done),by repeat(first|exact Drawn0.refl _|apply Drawn0.step)⟩
      rw [if_neg af] at H
      have ak:decide (57<(bt a0 aa))=false:=dF af
      clear af;have H':=A0_ H;clear H
      have p8:0≤(aa:Int):=zd
      have q8:aa<(a0.size:Int):=zd
      have ao:=bt_at a0 aa;replace p8:=eq_true p8;replace q8:=eq_true q8
      have ah:0≤(aa:Int):=zd
      have ai:aa<(a0.size:Int):=zd
      have aw:=bt_at a0 aa;replace ah:=eq_true ah;replace ai:=eq_true ai
      have ap:0≤(aa:Int):=zd
      have aq:aa<(a0.size:Int):=zd
      have az:=bt_at a0 aa;replace ap:=eq_true ap;replace aq:=eq_true aq
      go_wp2
      go_roundg k2
      case measure=>have:=al.out;have:=an.out;omega
      case rel=>exact⟨(wrap64 ((wrap64 (ag*10))+(((bt a0 aa) - 48) % 256))),(wrap64 (aa+1)),zt,zt,H',⟨by have:=al.out;have:=an.out;omega⟩,by repeat(first|exact Drawn0.refl _|apply Drawn0.step)⟩
     rw [if_neg c5] at H;have au:=dF c5;clear c5;obtain rfl:=sI H
     go_wp2
     go_ret
     exact⟨by first|rfl|(simp;done)|(simp [*];done),by repeat(first|exact Drawn0.refl _|apply Drawn0.step)⟩
def s1k_.f (a0 a1:ByteArray):Option (List ByteArray):=if a1=⟨#[44]⟩∧a0.size≤1000000 then some (Lib.splitB ⟨#[44]⟩ 0 (Lib.countB a0 ⟨#[44]⟩) a0) else none
theorem s1k_.calls (a0 a1:ByteArray) (r:List ByteArray) (w:World) (h:s1k_.f a0 a1=some r):Calls Tryz.prog 32 #[.string a0,.string a1] w fun e w' => ∃ v0_:Value,e = .returned (v0_)∧Kd.R Kd.string 9 w' w.heap.size (fun _=>True) v0_ r∧Below w.heap.size w w':=by
  unfold s1k_.f at h
  split at h
  · rename_i hc
    obtain⟨rfl,hs⟩:=hc
    have hl:=Lib.splitB_all ⟨#[44]⟩ (Nat.le_refl 1) 0 _ a0 rfl
    have hb:=Lib.countB_le ⟨#[44]⟩ (Nat.le_refl 1) a0.size a0 (Nat.le_refl _)
    obtain rfl:=sI h
    refine(XS.split1 a0 44 w (by omega)).mono ?_
    rintro e w' ⟨rfl,rfl⟩
    refine⟨_,rfl,Kd.R_of_own (enc:=Value.string) ⟨?_,.inr ⟨w.heap.size,Lib.countB a0 ⟨#[44]⟩+1,_,?_,Nat.le_refl _,heap_alloc_new _ _,?_,?_,?_,?_⟩⟩ (fun _ _=>trivial),(Below.refl _ _).alloc (Nat.le_refl _) _⟩
    · simp [encs]
    · rw [hl]
    · omega
    · unfold maxLen;omega
    · simp [hl]
    simp [encs,hl]
    exact List.take_of_length_le (by simp [hl])
  cases h
def s1j_.f (a0 a1:ByteArray):Option (ByteArray×Bool):=some (⟨(Lib.trimPrefix a0.data.toList a1.data.toList).toArray⟩,Lib.hasPrefix a0.data.toList a1.data.toList)
theorem s1j_.calls (a0 a1:ByteArray) (r1:ByteArray) (r2:Bool) (w:World) (h:s1j_.f a0 a1=some (r1,r2)):Calls Tryz.prog 101 #[.string a0,.string a1] w fun e w'=>e = .returned (.tuple #[.string r1,.bool r2])∧Drawn0 w w':=by
  unfold s1j_.f at h
  simp only [Option.some.injEq,Prod.mk.injEq] at h
  obtain⟨rfl,rfl⟩:=h
  refine(XS.cutpre a0 a1 w).mono ?_
  rintro e w' ⟨rfl,rfl⟩
  exact⟨rfl,Drawn0.refl _⟩
def s1i_.f (a0 a1:ByteArray):Option (ByteArray×ByteArray×Bool):=if a1=⟨#[41]⟩∧a0.size≤1000000 then some (⟨(Lib.cut a0.data.toList [41]).1.toArray⟩,⟨(Lib.cut a0.data.toList [41]).2.1.toArray⟩,(Lib.cut a0.data.toList [41]).2.2) else none
theorem s1i_.calls (a0 a1:ByteArray) (r1 r2:ByteArray) (r3:Bool) (w:World) (h:s1i_.f a0 a1=some (r1,r2,r3)):Calls Tryz.prog 102 #[.string a0,.string a1] w fun e w'=>e = .returned (.tuple #[.string r1,.string r2,.bool r3])∧Drawn0 w w':=by
  unfold s1i_.f at h
  split at h
  · rename_i hc
    obtain⟨rfl,hs⟩:=hc
    simp only [Option.some.injEq,Prod.mk.injEq] at h
    obtain⟨rfl,rfl,rfl⟩:=h
    refine(XS.cut1 a0 41 w hs).mono ?_
    rintro e w' ⟨rfl,n,rfl⟩
    exact⟨rfl,(Drawn0.refl _).step n⟩
  cases h
def s1h_.f (a0:ByteArray):Option (Int×Option Int):=if a0.size≤18 then (Lib.atoi a0.data.toList).bind fun n=>some (n,none) else none
theorem s1h_.calls (a0:ByteArray) (r1:Int) (r2:Option Int) (w:World) (h:s1h_.f a0=some (r1,r2)):Calls Tryz.prog 103 #[.string a0] w fun e w'=>e = .returned (.tuple #[.int .i64 r1,errW r2])∧Below w.heap.size w w':=by
  unfold s1h_.f at h
  split at h
  · rename_i hs
    obtain⟨n,h1,h⟩:=Option.bind_eq_some_iff.1 h
    simp only [Option.some.injEq,Prod.mk.injEq] at h
    obtain⟨rfl,rfl⟩:=h
    exact XS.atoi_ok a0 _ hs h1 w
  cases h
end Go.Proofs.YtjebcgbmlbemcaaGreatDoor.PFnExecuteContract
