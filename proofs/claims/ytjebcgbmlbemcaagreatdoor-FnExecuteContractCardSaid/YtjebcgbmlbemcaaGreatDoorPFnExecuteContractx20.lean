import Derived.Test.YtjebcgbmlbemcaaGreatDoorPFnExecuteContractx19
namespace Go.Proofs.YtjebcgbmlbemcaaGreatDoor.PFnExecuteContract
open Go.RowKit Go.Proofs.YtjebcgbmlbemcaaGreatDoorW.PrintWords Go.Proofs.YtjebcgbmlbemcaaGreatDoorW.PrintLast Go.Proofs.YtjebcgbmlbemcaaGreatDoorW.PrintMore
set_option maxHeartbeats 8000000
set_option maxRecDepth 100000
attribute [local go_sem] max2_int min2_int max_two min_two max_three min_three max_four min_four
set_option linter.unusedVariables false
set_option linter.unusedSimpArgs false
def laws_FnExecuteContract.j0:Nat→Int→Bool→Bool→Bool→List Int→List Int→List Int→List Int→List Int→List Int→Option (Bool)
  | 0,_,_,_,_,_,_,_,_,_,_=>none
  | k+1,x4,x6,x8,ao,ah,ai,aa,ab,aj,ak=>if ao=true then (if (x6 == x8)=true then ((ll_.f k aa ab aj ak).bind fun am=>(some am)) else (some false)) else ((lj_.f k ah ai).bind fun ac=>(if ac.size+9≤9223372036854775807 then ((lh_.f k x4).bind fun af=>(if (ac ++ (⟨#[99,111,110,116,114,97,99,116,32]⟩:ByteArray)).size+af.size≤9223372036854775807 then (if ((ac ++ (⟨#[99,111,110,116,114,97,99,116,32]⟩:ByteArray)) ++ af).size+6≤9223372036854775807 then ((impl_Execute.f k (((ac ++ (⟨#[99,111,110,116,114,97,99,116,32]⟩:ByteArray)) ++ af) ++ (⟨#[10,115,104,111,119,10]⟩:ByteArray))).bind fun an=>((lm_.f k aa ab).bind fun ag=>(if 6+ag.size≤9223372036854775807 then ((li_.f k (aa.length:Int)).bind fun al=>(if ((⟨#[111,107,10,111,107,10]⟩:ByteArray) ++ ag).size+al.size≤9223372036854775807 then (some (an.toList == (((⟨#[111,107,10,111,107,10]⟩:ByteArray) ++ ag) ++ al).toList)) else (none))) else (none)))) else (none)) else (none))) else (none)))
def laws_FnExecuteContract.f (k:Nat) (l0:List Int):Option (Bool):=if (l0.length:Int)>1048576 then (some true) else ((st_.f k l0).bind fun aa=>((i2_.f k aa.1 aa.2.1 aa.2.2).bind fun ab=>((su_.f k aa.1 aa.2.1 aa.2.2).bind fun ac=>(if (ab.2.2 != ac.2.2)=true then (laws_FnExecuteContract.j0 k aa.2.2 ab.2.2 ac.2.2 true aa.1 aa.2.1 ab.1 ab.2.1 ac.1 ac.2.1) else ((ll_.f k ab.1 ab.2.1 ac.1 ac.2.1).bind fun af=>(if af=true then (laws_FnExecuteContract.j0 k aa.2.2 ab.2.2 ac.2.2 (!ab.2.2) aa.1 aa.2.1 ab.1 ab.2.1 ac.1 ac.2.1) else (laws_FnExecuteContract.j0 k aa.2.2 ab.2.2 ac.2.2 true aa.1 aa.2.1 ab.1 ab.2.1 ac.1 ac.2.1)))))))
def laws_FnExecuteContract.T8:Bool×List (List Nat×List Nat):=(true,[([],[]),([0],[0]),([1],[1]),([],[]),([3,1],[3]),([2,4],[2,4]),([5],[5]),([6,4],[6]),([],[]),([8,7],[8]),([9],[9]),([],[]),([11],[11]),([12],[12]),([13,9],[13]),([10,14],[10,14]),([7,15],[7,15]),([16,14,0,1,2,3,4,5,6,7,8,9,10,11,12,13,14,15,16],[16])])
def laws_FnExecuteContract.B8:List Nat := [0,1,3,0,11,31,63,127,0,511,1023,0,2048,6144,15359,32767,65535,131071]
theorem laws_FnExecuteContract.tab8:rtab .any (opsOf Tryz.f5 8)=laws_FnExecuteContract.T8:=by kernel_rfl
theorem laws_FnExecuteContract.bits8:waitsOk laws_FnExecuteContract.T8.2 laws_FnExecuteContract.B8=true:=by kernel_rfl
theorem laws_FnExecuteContract.calls (k:Nat) (A0:Option Addr) (c0:Nat) (l0:List Int) (r:Bool) (w:World) (cn:Kd.C (Kd.int .u8) w A0 l0.length l0) (cp:l0.length≤c0) (h:laws_FnExecuteContract.f k l0=some r) :
    Calls Tryz.prog 5 #[.slice A0 l0.length c0] w fun e w'=>e = .returned (.bool r)∧Below w.heap.size w w':=by
 have eb:=Tryz.underlying25;have db:=A0_ cn;have dc:=A0_ cp;clear cn cp
 have HB:=A0_ (Below.refl w.heap.size w)
 have H:(if (l0.length:Int)>1048576 then (some true) else ((st_.f k l0).bind fun aT=>((i2_.f k aT.1 aT.2.1 aT.2.2).bind fun a6=>((su_.f k aT.1 aT.2.1 aT.2.2).bind fun a9=>(if (a6.2.2 != a9.2.2)=true then (laws_FnExecuteContract.j0 k aT.2.2 a6.2.2 a9.2.2 true aT.1 aT.2.1 a6.1 a6.2.1 a9.1 a9.2.1) else ((ll_.f k a6.1 a6.2.1 a9.1 a9.2.1).bind fun bB=>(if bB=true then (laws_FnExecuteContract.j0 k aT.2.2 a6.2.2 a9.2.2 (!a6.2.2) aT.1 aT.2.1 a6.1 a6.2.1 a9.1 a9.2.1) else (laws_FnExecuteContract.j0 k aT.2.2 a6.2.2 a9.2.2 true aT.1 aT.2.1 a6.1 a6.2.1 a9.1 a9.2.1))))))))=some r:=h
 clear h
 by_cases c2:(l0.length:Int)>1048576
 ·rw [if_pos c2] at H
  have b5:decide (1048576<(l0.length:Int))=true:=dT c2
  have b6:decide (1048576<l0.length)=true:=dT (by omega)
  clear c2;obtain rfl:=sI H
  go_enter Tryz.func5,Tryz.ntmps5
  go_wp2
  go_ret
  exact⟨by first|rfl|(simp [*] <;> rfl),zB_ HB⟩
 rw [if_neg c2] at H
 have b5:decide (1048576<(l0.length:Int))=false:=dF c2
 have b6:decide (1048576<l0.length)=false:=dF (by omega)
 clear c2;obtain⟨⟨ao,ap,bj⟩,A3,H⟩:=zbind H;dsimp only at H;obtain⟨⟨af,ai,aU⟩,A4,H⟩:=zbind H;dsimp only at H;obtain⟨⟨ag,ah,aY⟩,A5,H⟩:=zbind H;dsimp only at H;have b7:=A0_ H;clear H
 go_enter Tryz.func5,Tryz.ntmps5
 go_upto_region 6 with(first|((with_reducible refine gC (f:=18) rfl ?_);refine zJ (some 14) Tryz.func18 #[.slice A0 l0.length c0] ?_;(with_reducible refine(st_.calls k _ _ l0 ao ap bj _ ?aV ?aW A3.out).mono ?_);(case aV=>repeat(first|exact db.out|(with_reducible refine cA ?_ _)|(with_reducible refine cN ?_ _)|(with_reducible refine cD ?_)));(case aW=>exact dc.out);rintro e w7 ⟨ec,ed,rfl,be,bf,hb⟩;refine⟨_,rfl,?_⟩;have aE:=A0_ (Kd.Q_lower be (bZ (zB_ HB)));have aG:=A0_ (rL bf (bZ (zB_ HB)));replace HB:=zB HB hb;(try clear hb);(try clear be);(try clear bf))|((with_reducible refine gD (N:=3) rfl ?_);refine zX (N:=3) (cs := #[.slice none 0 0,.slice none 0 0]) (t:=25) ?_;intro aX hg w8 hbox hb;replace aE:=A0_ (Kd.Q_below (zQ_ aE) hb);replace aG:=zR aG hb;have ac:=A0_ (hbox);have df:=zG hg HB;have dh:=zG hg HB;replace HB:=zB HB hb;clear hb hbox hg;obtain⟨aI,aH,dd,_⟩:=Kd.Q_slice aE.out;subst dd;have bG:=zc0 ac;have bH:=zc1 ac;have bI:=kF ac.out 0;have bJ:=kF ac.out 1;obtain⟨aD,az,ct⟩:=rS aG.out;subst ct)|((with_reducible refine gC (f:=19) rfl ?_);refine zJ (some 20) Tryz.func19 #[.agg #[.slice aI ao.length aH,.slice aD ap.length az],.int .i64 bj] ?_;(with_reducible refine(i2_.calls k _ _ ao _ _ ap bj af ai aU _ ?aV ?aW ?a7 ?a8 A4.out).mono ?_);(case aV=>refine(Kd.Q_reads' (e:=3) (base:=w.heap.size) (ok:=fun k_=>nL k_ aD ap az) (n:=ao.length) (c:=aH) ?_).2.2;exact(by(with_reducible repeat(first|apply Kd.Q_alloc|apply Kd.Q_drewN|apply Kd.Q_drew));exact(Kd.Q_mono (Kd.Q_far (p:=⟨aX,1,none⟩) (Kd.Q_far (p:=⟨aX,0,none⟩) (Kd.Q_types aE.out ac.out (by decide)) (fun _ hk=>hk.2) (.slice aI ao.length aH)) (fun _ hk=>hk.2) (.slice aD ap.length az)) (fun _ h_=>h_.1))));(case aW=>exact(Kd.Q_reads' aE.out).2.1);(case a7=>refine(rR (e:=3) (base:=w.heap.size) (ok:=fun k_=>nL k_ aI ao aH) (n:=ap.length) (c:=az) ?_).2.2;exact(zF aG ac (.slice aI ao.length aH) (.slice aD ap.length az) 0 1));(case a8=>exact(rR aG.out).2.1);rintro e w12 ⟨ee,ef,rfl,be,bf,hb⟩;refine⟨_,rfl,?_⟩;have aJ:=A0_ (rL (Kd.R_new' (Kd.R_new' be (Kd.Q_lt (by(with_reducible repeat(first|apply Kd.Q_alloc|apply Kd.Q_drewN|apply Kd.Q_drew));exact(Kd.Q_mono (Kd.Q_far (p:=⟨aX,1,none⟩) (Kd.Q_far (p:=⟨aX,0,none⟩) (Kd.Q_types aE.out ac.out (by decide)) (fun _ hk=>hk.2) (.slice aI ao.length aH)) (fun _ hk=>hk.2) (.slice aD ap.length az)) (fun _ h_=>h_.1))))) (rX (zF aG ac (.slice aI ao.length aH) (.slice aD ap.length az) 0 1))) (bZ (zB_ HB)));have aK:=A0_ (rL (Kd.R_new' (Kd.R_new' bf (Kd.Q_lt (by(with_reducible repeat(first|apply Kd.Q_alloc|apply Kd.Q_drewN|apply Kd.Q_drew));exact(Kd.Q_mono (Kd.Q_far (p:=⟨aX,1,none⟩) (Kd.Q_far (p:=⟨aX,0,none⟩) (Kd.Q_types aE.out ac.out (by decide)) (fun _ hk=>hk.2) (.slice aI ao.length aH)) (fun _ hk=>hk.2) (.slice aD ap.length az)) (fun _ h_=>h_.1))))) (rX (zF aG ac (.slice aI ao.length aH) (.slice aD ap.length az) 0 1))) (bZ (zB_ HB)));replace aE:=A0_ (Kd.Q_mono (Kd.Q_told (Kd.Q_told (Kd.Q_old (by(with_reducible repeat(first|apply Kd.Q_alloc|apply Kd.Q_drewN|apply Kd.Q_drew));exact(Kd.Q_mono (Kd.Q_far (p:=⟨aX,1,none⟩) (Kd.Q_far (p:=⟨aX,0,none⟩) (Kd.Q_types aE.out ac.out (by decide)) (fun _ hk=>hk.2) (.slice aI ao.length aH)) (fun _ hk=>hk.2) (.slice aD ap.length az)) (fun _ h_=>h_.1))) hb) (Kd.R_base be)) (Kd.R_base bf)) (fun _ h_=>h_.1));replace aG:=A0_ (rM (rT (rT (rO (zF aG ac (.slice aI ao.length aH) (.slice aD ap.length az) 0 1) hb) (Kd.R_base be)) (Kd.R_base bf)) (fun _ h_=>h_.1));replace ac:=A0_ (kB (g:=aX) (o := .cells #[.slice aI ao.length aH,.slice aD ap.length az] 25 (0,0)) (by refine zbp (cs := #[.slice aI ao.length aH,.slice none 0 0]) ?_ 1 _ rfl;refine zbp (cs := #[.slice none 0 0,.slice none 0 0]) ?_ 0 _ rfl;exact zK_ ac) hb);replace HB:=zB HB hb;(try clear hb);(try clear be);(try clear bf))|((with_reducible refine gD (N:=5) rfl ?_);refine zX (N:=5) (cs := #[.slice none 0 0,.slice none 0 0]) (t:=25) ?_;intro aZ hg w13 hbox hb;replace aE:=A0_ (Kd.Q_below (zQ_ aE) hb);replace aG:=zR aG hb;replace aJ:=zR aJ hb;replace aK:=zR aK hb;have aa:=A0_ (hbox);have di:=zG hg HB;have dj:=zG hg HB;replace HB:=zB HB hb;have bc:=zL hg ac;have bg:=zM hg ac;replace ac:=zK ac hb;clear hb hbox hg;obtain⟨aA,ax,cu⟩:=rS aJ.out;subst cu;have dk:=bg.out;have dl:=bc.out;have bK:=zc0 aa;have bL:=zc1 aa;have bM:=kF aa.out 0;have bO:=kF aa.out 1;obtain⟨aC,ay,cv⟩:=rS aK.out;subst cv;have bP:=zc0 ac;have bQ:=zc1 ac;have bR:=kF ac.out 0;have bU:=kF ac.out 1)|((with_reducible refine gC (f:=20) rfl ?_);refine zJ (some 26) Tryz.func20 #[.agg #[.slice aI ao.length aH,.slice aD ap.length az],.int .i64 bj] ?_;(with_reducible refine(su_.calls k _ _ ao _ _ ap bj ag ah aY _ ?aV ?aW ?a7 ?a8 A5.out).mono ?_);(case aV=>refine(Kd.Q_reads' (e:=3) (base:=w.heap.size) (ok:=fun k_=>((nL k_ aD ap az∧nL k_ aA af ax)∧nL k_ aC ai ay)) (n:=ao.length) (c:=aH) ?_).2.2;exact(by(with_reducible repeat(first|apply Kd.Q_alloc|apply Kd.Q_drewN|apply Kd.Q_drew));exact(Kd.Q_mono (Kd.Q_far (p:=⟨aZ,1,none⟩) (Kd.Q_far (p:=⟨aZ,0,none⟩) (Kd.Q_types aE.out aa.out (by decide)) (fun _ hk=>hk.2) (.slice aA af.length ax)) (fun _ hk=>hk.2) (.slice aC ai.length ay)) (fun _ h_=>h_.1))));(case aW=>exact(Kd.Q_reads' aE.out).2.1);(case a7=>refine(rR (e:=3) (base:=w.heap.size) (ok:=fun k_=>((nL k_ aI ao aH∧nL k_ aA af ax)∧nL k_ aC ai ay)) (n:=ap.length) (c:=az) ?_).2.2;exact(zF aG aa (.slice aA af.length ax) (.slice aC ai.length ay) 0 1));(case a8=>exact(rR aG.out).2.1);rintro e w19 ⟨eg,eh,rfl,be,bf,hb⟩;refine⟨_,rfl,?_⟩;have a4:=A0_ (rL (Kd.R_new' (Kd.R_new' (Kd.R_new' (Kd.R_new' be (Kd.Q_lt (by(with_reducible repeat(first|apply Kd.Q_alloc|apply Kd.Q_drewN|apply Kd.Q_drew));exact(Kd.Q_mono (Kd.Q_far (p:=⟨aZ,1,none⟩) (Kd.Q_far (p:=⟨aZ,0,none⟩) (Kd.Q_types aE.out aa.out (by decide)) (fun _ hk=>hk.2) (.slice aA af.length ax)) (fun _ hk=>hk.2) (.slice aC ai.length ay)) (fun _ h_=>h_.1))))) (rX (zF aG aa (.slice aA af.length ax) (.slice aC ai.length ay) 0 1))) (rX (zF aJ aa (.slice aA af.length ax) (.slice aC ai.length ay) 0 1))) (rX (zF aK aa (.slice aA af.length ax) (.slice aC ai.length ay) 0 1))) (bZ (zB_ HB)));have a5:=A0_ (rL (Kd.R_new' (Kd.R_new' (Kd.R_new' (Kd.R_new' bf (Kd.Q_lt (by(with_reducible repeat(first|apply Kd.Q_alloc|apply Kd.Q_drewN|apply Kd.Q_drew));exact(Kd.Q_mono (Kd.Q_far (p:=⟨aZ,1,none⟩) (Kd.Q_far (p:=⟨aZ,0,none⟩) (Kd.Q_types aE.out aa.out (by decide)) (fun _ hk=>hk.2) (.slice aA af.length ax)) (fun _ hk=>hk.2) (.slice aC ai.length ay)) (fun _ h_=>h_.1))))) (rX (zF aG aa (.slice aA af.length ax) (.slice aC ai.length ay) 0 1))) (rX (zF aJ aa (.slice aA af.length ax) (.slice aC ai.length ay) 0 1))) (rX (zF aK aa (.slice aA af.length ax) (.slice aC ai.length ay) 0 1))) (bZ (zB_ HB)));replace aE:=A0_ (Kd.Q_mono (Kd.Q_told (Kd.Q_told (Kd.Q_old (by(with_reducible repeat(first|apply Kd.Q_alloc|apply Kd.Q_drewN|apply Kd.Q_drew));exact(Kd.Q_mono (Kd.Q_far (p:=⟨aZ,1,none⟩) (Kd.Q_far (p:=⟨aZ,0,none⟩) (Kd.Q_types aE.out aa.out (by decide)) (fun _ hk=>hk.2) (.slice aA af.length ax)) (fun _ hk=>hk.2) (.slice aC ai.length ay)) (fun _ h_=>h_.1))) hb) (Kd.R_base be)) (Kd.R_base bf)) (fun _ h_=>h_.1));replace aG:=A0_ (rM (rT (rT (rO (zF aG aa (.slice aA af.length ax) (.slice aC ai.length ay) 0 1) hb) (Kd.R_base be)) (Kd.R_base bf)) (fun _ h_=>h_.1));replace aJ:=A0_ (rM (rT (rT (rO (zF aJ aa (.slice aA af.length ax) (.slice aC ai.length ay) 0 1) hb) (Kd.R_base be)) (Kd.R_base bf)) (fun _ h_=>h_.1));replace aK:=A0_ (rM (rT (rT (rO (zF aK aa (.slice aA af.length ax) (.slice aC ai.length ay) 0 1) hb) (Kd.R_base be)) (Kd.R_base bf)) (fun _ h_=>h_.1));replace ac:=A0_ (kB (g:=aX) (o := .cells #[.slice aI ao.length aH,.slice aD ap.length az] 25 (0,0)) (by refine zbf ?_ _ (hp:=by exact bc.out);refine zbf ?_ _ (hp:=by exact bc.out);exact zK_ ac) hb);replace aa:=A0_ (kB (g:=aZ) (o := .cells #[.slice aA af.length ax,.slice aC ai.length ay] 25 (0,0)) (by refine zbp (cs := #[.slice aA af.length ax,.slice none 0 0]) ?_ 1 _ rfl;refine zbp (cs := #[.slice none 0 0,.slice none 0 0]) ?_ 0 _ rfl;exact zK_ aa) hb);replace HB:=zB HB hb;(try clear hb);(try clear be);(try clear bf))|((with_reducible refine gD (N:=7) rfl ?_);refine zX (N:=7) (cs := #[.slice none 0 0,.slice none 0 0]) (t:=25) ?_;intro aM hg w20 hbox hb;replace aE:=A0_ (Kd.Q_below (zQ_ aE) hb);replace aG:=zR aG hb;replace aJ:=zR aJ hb;replace aK:=zR aK hb;replace a4:=zR a4 hb;replace a5:=zR a5 hb;have ab:=A0_ (hbox);have dn:=zG hg HB;have dp:=zG hg HB;replace HB:=zB HB hb;have aN:=zL hg ac;have bh:=zM hg ac;replace ac:=zK ac hb;have aQ:=zL hg aa;have bi:=zM hg aa;replace aa:=zK aa hb;clear hb hbox hg;obtain⟨ak,aj,cw⟩:=rS a4.out;subst cw;have dq:=bh.out;have dr:=aN.out;have dt:=bi.out;have du:=aQ.out;have bV:=zc0 ab;have bW:=zc1 ab;have bX:=kF ab.out 0;have bY:=kF ab.out 1;obtain⟨aq,an,cx⟩:=rS a5.out;subst cx))
 (try simp only [Act.put,List.setIfInBounds_toArray,List.set_cons_zero,List.set_cons_succ])
 go_cut [41] (fun v41 wc => ∃ (kq:Nat) (bv:Bool),v41 = .bool bv∧Aside0 (laws_FnExecuteContract.j0 kq bj aU aY bv ao ap af ai ag ah=some r)∧Aside0 (kq≤k)∧Aside0 (Kd.Q (Kd.int .i64) 3 wc w.heap.size (fun k_=>some k_≠((.slice aD ap.length az):Value).ownBlock∧some k_≠((.slice aA af.length ax):Value).ownBlock∧some k_≠((.slice aC ai.length ay):Value).ownBlock∧some k_≠((.slice ak ag.length aj):Value).ownBlock∧some k_≠((.slice aq ah.length an):Value).ownBlock) (.slice aI ao.length aH) ao)∧Aside0 (Kd.R (Kd.int .i64) 3 wc w.heap.size (fun k_=>some k_≠((.slice aI ao.length aH):Value).ownBlock∧some k_≠((.slice aA af.length ax):Value).ownBlock∧some k_≠((.slice aC ai.length ay):Value).ownBlock∧some k_≠((.slice ak ag.length aj):Value).ownBlock∧some k_≠((.slice aq ah.length an):Value).ownBlock) (.slice aD ap.length az) ap)∧Aside0 (Kd.Q (Kd.int .i64) 3 wc w.heap.size (fun k_=>some k_≠((.slice aI ao.length aH):Value).ownBlock∧some k_≠((.slice aD ap.length az):Value).ownBlock∧some k_≠((.slice aC ai.length ay):Value).ownBlock∧some k_≠((.slice ak ag.length aj):Value).ownBlock∧some k_≠((.slice aq ah.length an):Value).ownBlock) (.slice aA af.length ax) af)∧Aside0 (Kd.R (Kd.int .i64) 3 wc w.heap.size (fun k_=>some k_≠((.slice aI ao.length aH):Value).ownBlock∧some k_≠((.slice aD ap.length az):Value).ownBlock∧some k_≠((.slice aA af.length ax):Value).ownBlock∧some k_≠((.slice ak ag.length aj):Value).ownBlock∧some k_≠((.slice aq ah.length an):Value).ownBlock) (.slice aC ai.length ay) ai)∧Aside0 (Kd.Q (Kd.int .i64) 3 wc w.heap.size (fun k_=>some k_≠((.slice aI ao.length aH):Value).ownBlock∧some k_≠((.slice aD ap.length az):Value).ownBlock∧some k_≠((.slice aA af.length ax):Value).ownBlock∧some k_≠((.slice aC ai.length ay):Value).ownBlock∧some k_≠((.slice aq ah.length an):Value).ownBlock) (.slice ak ag.length aj) ag)∧Aside0 (Kd.R (Kd.int .i64) 3 wc w.heap.size (fun k_=>some k_≠((.slice aI ao.length aH):Value).ownBlock∧some k_≠((.slice aD ap.length az):Value).ownBlock∧some k_≠((.slice aA af.length ax):Value).ownBlock∧some k_≠((.slice aC ai.length ay):Value).ownBlock∧some k_≠((.slice ak ag.length aj):Value).ownBlock) (.slice aq ah.length an) ah)∧Aside0 (wc.heap[aX]? = some (.cells #[(.slice aI ao.length aH),(.slice aD ap.length az)] 25 (0,0)))∧Aside0 (wc.heap[aZ]? = some (.cells #[(.slice aA af.length ax),(.slice aC ai.length ay)] 25 (0,0)))∧Aside0 (wc.heap[aM]? = some (.cells #[(.slice ak ag.length aj),(.slice aq ah.length an)] 25 (0,0)))∧Aside0 (Below w.heap.size w wc))
 case first =>
  have H:=b7.out;clear b7
  by_cases bl:(aU != aY)=true
  ·rw [if_pos bl] at H
   have bo:(aU != aY)=true:=bl
   (try(have ci:decide (aU=aY)=false:=by simpa using bl))
   (try(have cj:(aU == aY)=false:=by simpa using bl))
   (try(have dv : ¬ (aU=aY):=by simpa using bl))
   clear bl
   (first|rw [bo]|(simp only [i64_w,i32_w];rw [bo])|skip)
   have H':=A0_ H;clear H
   go_wp2
   go_meet
   case rel=>exact⟨_,(true),zt,H',zo,⟨by(with_reducible repeat(first|apply Kd.Q_alloc|apply Kd.Q_drewN|apply Kd.Q_drew));exact Kd.Q_mono (Kd.Q_far (p:=⟨aM,1,none⟩) (Kd.Q_far (p:=⟨aM,0,none⟩) (Kd.Q_types aE.out ab.out (by decide)) (fun _ hk=>hk.2) (.slice ak ag.length aj)) (fun _ hk=>hk.2) (.slice aq ah.length an)) (fun _ hk=>⟨hk.1.1.1.1.1,⟨hk.1.1.1.1.2,⟨hk.1.1.1.2,⟨hk.1.1.2,hk.1.2⟩⟩⟩⟩)⟩,⟨by(with_reducible repeat(first|apply rA|apply rN|apply rD));exact rM (rF (p:=⟨aM,1,none⟩) (rF (p:=⟨aM,0,none⟩) (rY aG.out ab.out (by decide)) (fun _ hk=>hk.2) (.slice ak ag.length aj)) (fun _ hk=>hk.2) (.slice aq ah.length an)) (fun _ hk=>⟨hk.1.1.1.1.1,⟨hk.1.1.1.1.2,⟨hk.1.1.1.2,⟨hk.1.1.2,hk.1.2⟩⟩⟩⟩)⟩,⟨Kd.Q_of_R (by(with_reducible repeat(first|apply rA|apply rN|apply rD));exact rM (rF (p:=⟨aM,1,none⟩) (rF (p:=⟨aM,0,none⟩) (rY aJ.out ab.out (by decide)) (fun _ hk=>hk.2) (.slice ak ag.length aj)) (fun _ hk=>hk.2) (.slice aq ah.length an)) (fun _ hk=>⟨hk.1.1.1.1.2,⟨hk.1.1.1.2,⟨hk.1.1.1.1.1,⟨hk.1.1.2,hk.1.2⟩⟩⟩⟩))⟩,⟨by(with_reducible repeat(first|apply rA|apply rN|apply rD));exact rM (rF (p:=⟨aM,1,none⟩) (rF (p:=⟨aM,0,none⟩) (rY aK.out ab.out (by decide)) (fun _ hk=>hk.2) (.slice ak ag.length aj)) (fun _ hk=>hk.2) (.slice aq ah.length an)) (fun _ hk=>⟨hk.1.1.1.1.2,⟨hk.1.1.1.2,⟨hk.1.1.1.1.1,⟨hk.1.1.2,hk.1.2⟩⟩⟩⟩)⟩,⟨Kd.Q_of_R (by(with_reducible repeat(first|apply rA|apply rN|apply rD));exact rM (rF (p:=⟨aM,1,none⟩) (rF (p:=⟨aM,0,none⟩) (rY a4.out ab.out (by decide)) (fun _ hk=>hk.2) (.slice ak ag.length aj)) (fun _ hk=>hk.2) (.slice aq ah.length an)) (fun _ hk=>⟨hk.1.1.1.1.2,⟨hk.1.1.1.2,⟨hk.1.1.2,⟨hk.1.2,hk.1.1.1.1.1⟩⟩⟩⟩))⟩,⟨by(with_reducible repeat(first|apply rA|apply rN|apply rD));exact rM (rF (p:=⟨aM,1,none⟩) (rF (p:=⟨aM,0,none⟩) (rY a5.out ab.out (by decide)) (fun _ hk=>hk.2) (.slice ak ag.length aj)) (fun _ hk=>hk.2) (.slice aq ah.length an)) (fun _ hk=>⟨hk.1.1.1.1.2,⟨hk.1.1.1.2,⟨hk.1.1.2,⟨hk.1.2,hk.1.1.1.1.1⟩⟩⟩⟩)⟩,⟨by refine zbf ?_ _ (hp:=by exact aN.out);refine zbf ?_ _ (hp:=by exact aN.out);exact zK_ ac⟩,⟨by refine zbf ?_ _ (hp:=by exact aQ.out);refine zbf ?_ _ (hp:=by exact aQ.out);exact zK_ aa⟩,⟨by refine zbp (cs := #[.slice ak ag.length aj,.slice none 0 0]) ?_ 1 _ rfl;refine zbp (cs := #[.slice none 0 0,.slice none 0 0]) ?_ 0 _ rfl;exact zK_ ab⟩,⟨zB_ HB⟩⟩
  rw [if_neg bl] at H
  have bo:(aU != aY)=false:=by simpa using bl
  (try(have ci:decide (aU=aY)=true:=by simpa using bl))
  (try(have cj:(aU == aY)=true:=by simpa using bl))
  clear bl
  (first|rw [bo]|(simp only [i64_w,i32_w];rw [bo])|skip)
  obtain⟨bB,cq,H⟩:=zbind H
  by_cases bE:bB=true
  ·subst bE
   rw [if_pos rfl] at H;have H':=A0_ H;clear H;have dw:=bg.out;have dx:=bc.out;have dy:=aQ.out;have dz:=bi.out;have cz:=zc0 aa;have cC:=zc1 aa;have cE:=kF aa.out 0;have cF:=kF aa.out 1;have dA:=bh.out;have dB:=aN.out;have cG:=zc0 ab;have cH:=zc1 ab;have cI:=kF ab.out 0;have cJ:=kF ab.out 1
   go_wp2_with (first|(go_at_call 9;(with_reducible refine(ll_.calls k _ _ af _ _ ai _ _ ag _ _ ah true _ ?aV ?aW ?a7 ?a8 ?bp ?bq ?br ?bu cq.out).mono ?_);(case aV=>refine(rR (e:=3) (base:=w.heap.size) (ok:=fun k_=>((((nL k_ aC ai ay∧nL k_ aI ao aH)∧nL k_ aD ap az)∧nL k_ ak ag aj)∧nL k_ aq ah an)) (n:=af.length) (c:=ax) ?_).2.2;exact(zF aJ ab (.slice ak ag.length aj) (.slice aq ah.length an) 0 1));(case aW=>exact(rR aJ.out).2.1);(case a7=>refine(rR (e:=3) (base:=w.heap.size) (ok:=fun k_=>((((nL k_ aA af ax∧nL k_ aI ao aH)∧nL k_ aD ap az)∧nL k_ ak ag aj)∧nL k_ aq ah an)) (n:=ai.length) (c:=ay) ?_).2.2;exact(zF aK ab (.slice ak ag.length aj) (.slice aq ah.length an) 0 1));(case a8=>exact(rR aK.out).2.1);(case bp=>refine(rR (e:=3) (base:=w.heap.size) (ok:=fun k_=>((((nL k_ aq ah an∧nL k_ aI ao aH)∧nL k_ aD ap az)∧nL k_ aA af ax)∧nL k_ aC ai ay)) (n:=ag.length) (c:=aj) ?_).2.2;exact(zF a4 ab (.slice ak ag.length aj) (.slice aq ah.length an) 0 1));(case bq=>exact(rR a4.out).2.1);(case br=>refine(rR (e:=3) (base:=w.heap.size) (ok:=fun k_=>((((nL k_ ak ag aj∧nL k_ aI ao aH)∧nL k_ aD ap az)∧nL k_ aA af ax)∧nL k_ aC ai ay)) (n:=ah.length) (c:=an) ?_).2.2;exact(zF a5 ab (.slice ak ag.length aj) (.slice aq ah.length an) 0 1));(case bu=>exact(rR a5.out).2.1);rintro e w34 ⟨rfl,hb⟩;replace aE:=A0_ (Kd.Q_below (by(with_reducible repeat(first|apply Kd.Q_alloc|apply Kd.Q_drewN|apply Kd.Q_drew));exact(Kd.Q_mono (Kd.Q_far (p:=⟨aM,1,none⟩) (Kd.Q_far (p:=⟨aM,0,none⟩) (Kd.Q_types aE.out ab.out (by decide)) (fun _ hk=>hk.2) (.slice ak ag.length aj)) (fun _ hk=>hk.2) (.slice aq ah.length an)) (fun _ h_=>h_.1))) hb);replace aG:=A0_ (rB (zF aG ab (.slice ak ag.length aj) (.slice aq ah.length an) 0 1) hb);replace aJ:=A0_ (rB (zF aJ ab (.slice ak ag.length aj) (.slice aq ah.length an) 0 1) hb);replace aK:=A0_ (rB (zF aK ab (.slice ak ag.length aj) (.slice aq ah.length an) 0 1) hb);replace a4:=A0_ (rB (zF a4 ab (.slice ak ag.length aj) (.slice aq ah.length an) 0 1) hb);replace a5:=A0_ (rB (zF a5 ab (.slice ak ag.length aj) (.slice aq ah.length an) 0 1) hb);replace ac:=A0_ (kB (g:=aX) (o := .cells #[.slice aI ao.length aH,.slice aD ap.length az] 25 (0,0)) (by refine zbf ?_ _ (hp:=by exact aN.out);refine zbf ?_ _ (hp:=by exact aN.out);exact zK_ ac) hb);replace aa:=A0_ (kB (g:=aZ) (o := .cells #[.slice aA af.length ax,.slice aC ai.length ay] 25 (0,0)) (by refine zbf ?_ _ (hp:=by exact aQ.out);refine zbf ?_ _ (hp:=by exact aQ.out);exact zK_ aa) hb);replace ab:=A0_ (kB (g:=aM) (o := .cells #[.slice ak ag.length aj,.slice aq ah.length an] 25 (0,0)) (by refine zbp (cs := #[.slice ak ag.length aj,.slice none 0 0]) ?_ 1 _ rfl;refine zbp (cs := #[.slice none 0 0,.slice none 0 0]) ?_ 0 _ rfl;exact zK_ ab) hb);replace HB:=zB HB hb;(try clear hb)))
   go_meet
   case rel=>exact⟨_,(!aU),zt,H',zo,⟨zmQ aE (fun _ hk=>⟨hk.1.1.1.1,⟨hk.1.1.1.2,⟨hk.1.1.2,⟨hk.1.2,hk.2⟩⟩⟩⟩)⟩,⟨zmR aG (fun _ hk=>⟨hk.1.1.1.1,⟨hk.1.1.1.2,⟨hk.1.1.2,⟨hk.1.2,hk.2⟩⟩⟩⟩)⟩,⟨Kd.Q_of_R (zmR aJ (fun _ hk=>⟨hk.1.1.1.2,⟨hk.1.1.2,⟨hk.1.1.1.1,⟨hk.1.2,hk.2⟩⟩⟩⟩))⟩,⟨zmR aK (fun _ hk=>⟨hk.1.1.1.2,⟨hk.1.1.2,⟨hk.1.1.1.1,⟨hk.1.2,hk.2⟩⟩⟩⟩)⟩,⟨Kd.Q_of_R (zmR a4 (fun _ hk=>⟨hk.1.1.1.2,⟨hk.1.1.2,⟨hk.1.2,⟨hk.2,hk.1.1.1.1⟩⟩⟩⟩))⟩,⟨zmR a5 (fun _ hk=>⟨hk.1.1.1.2,⟨hk.1.1.2,⟨hk.1.2,⟨hk.2,hk.1.1.1.1⟩⟩⟩⟩)⟩,⟨zK_ ac⟩,⟨zK_ aa⟩,⟨zK_ ab⟩,⟨zB_ HB⟩⟩
  replace bE:=Bool.eq_false_iff.mpr bE;subst bE
  rw [if_neg (show ¬ (false=true) by decide)] at H
  have H':=A0_ H;clear H;have dC:=bg.out;have dD:=bc.out;have dE:=aQ.out;have dG:=bi.out;have cK:=zc0 aa;have cL:=zc1 aa;have cM:=kF aa.out 0;have cO:=kF aa.out 1;have dH:=bh.out;have dI:=aN.out;have cP:=zc0 ab;have cQ:=zc1 ab;have cR:=kF ab.out 0;have cS:=kF ab.out 1
  go_wp2_with (first|(go_at_call 9;(with_reducible refine(ll_.calls k _ _ af _ _ ai _ _ ag _ _ ah false _ ?aV ?aW ?a7 ?a8 ?bp ?bq ?br ?bu cq.out).mono ?_);(case aV=>refine(rR (e:=3) (base:=w.heap.size) (ok:=fun k_=>((((nL k_ aC ai ay∧nL k_ aI ao aH)∧nL k_ aD ap az)∧nL k_ ak ag aj)∧nL k_ aq ah an)) (n:=af.length) (c:=ax) ?_).2.2;exact(zF aJ ab (.slice ak ag.length aj) (.slice aq ah.length an) 0 1));(case aW=>exact(rR aJ.out).2.1);(case a7=>refine(rR (e:=3) (base:=w.heap.size) (ok:=fun k_=>((((nL k_ aA af ax∧nL k_ aI ao aH)∧nL k_ aD ap az)∧nL k_ ak ag aj)∧nL k_ aq ah an)) (n:=ai.length) (c:=ay) ?_).2.2;exact(zF aK ab (.slice ak ag.length aj) (.slice aq ah.length an) 0 1));(case a8=>exact(rR aK.out).2.1);(case bp=>refine(rR (e:=3) (base:=w.heap.size) (ok:=fun k_=>((((nL k_ aq ah an∧nL k_ aI ao aH)∧nL k_ aD ap az)∧nL k_ aA af ax)∧nL k_ aC ai ay)) (n:=ag.length) (c:=aj) ?_).2.2;exact(zF a4 ab (.slice ak ag.length aj) (.slice aq ah.length an) 0 1));(case bq=>exact(rR a4.out).2.1);(case br=>refine(rR (e:=3) (base:=w.heap.size) (ok:=fun k_=>((((nL k_ ak ag aj∧nL k_ aI ao aH)∧nL k_ aD ap az)∧nL k_ aA af ax)∧nL k_ aC ai ay)) (n:=ah.length) (c:=an) ?_).2.2;exact(zF a5 ab (.slice ak ag.length aj) (.slice aq ah.length an) 0 1));(case bu=>exact(rR a5.out).2.1);rintro e w40 ⟨rfl,hb⟩;replace aE:=A0_ (Kd.Q_below (by(with_reducible repeat(first|apply Kd.Q_alloc|apply Kd.Q_drewN|apply Kd.Q_drew));exact(Kd.Q_mono (Kd.Q_far (p:=⟨aM,1,none⟩) (Kd.Q_far (p:=⟨aM,0,none⟩) (Kd.Q_types aE.out ab.out (by decide)) (fun _ hk=>hk.2) (.slice ak ag.length aj)) (fun _ hk=>hk.2) (.slice aq ah.length an)) (fun _ h_=>h_.1))) hb);replace aG:=A0_ (rB (zF aG ab (.slice ak ag.length aj) (.slice aq ah.length an) 0 1) hb);replace aJ:=A0_ (rB (zF aJ ab (.slice ak ag.length aj) (.slice aq ah.length an) 0 1) hb);replace aK:=A0_ (rB (zF aK ab (.slice ak ag.length aj) (.slice aq ah.length an) 0 1) hb);replace a4:=A0_ (rB (zF a4 ab (.slice ak ag.length aj) (.slice aq ah.length an) 0 1) hb);replace a5:=A0_ (rB (zF a5 ab (.slice ak ag.length aj) (.slice aq ah.length an) 0 1) hb);replace ac:=A0_ (kB (g:=aX) (o := .cells #[.slice aI ao.length aH,.slice aD ap.length az] 25 (0,0)) (by refine zbf ?_ _ (hp:=by exact aN.out);refine zbf ?_ _ (hp:=by exact aN.out);exact zK_ ac) hb);replace aa:=A0_ (kB (g:=aZ) (o := .cells #[.slice aA af.length ax,.slice aC ai.length ay] 25 (0,0)) (by refine zbf ?_ _ (hp:=by exact aQ.out);refine zbf ?_ _ (hp:=by exact aQ.out);exact zK_ aa) hb);replace ab:=A0_ (kB (g:=aM) (o := .cells #[.slice ak ag.length aj,.slice aq ah.length an] 25 (0,0)) (by refine zbp (cs := #[.slice ak ag.length aj,.slice none 0 0]) ?_ 1 _ rfl;refine zbp (cs := #[.slice none 0 0,.slice none 0 0]) ?_ 0 _ rfl;exact zK_ ab) hb);replace HB:=zB HB hb;(try clear hb)))
  go_meet
  case rel=>exact⟨_,(true),zt,H',zo,⟨zmQ aE (fun _ hk=>⟨hk.1.1.1.1,⟨hk.1.1.1.2,⟨hk.1.1.2,⟨hk.1.2,hk.2⟩⟩⟩⟩)⟩,⟨zmR aG (fun _ hk=>⟨hk.1.1.1.1,⟨hk.1.1.1.2,⟨hk.1.1.2,⟨hk.1.2,hk.2⟩⟩⟩⟩)⟩,⟨Kd.Q_of_R (zmR aJ (fun _ hk=>⟨hk.1.1.1.2,⟨hk.1.1.2,⟨hk.1.1.1.1,⟨hk.1.2,hk.2⟩⟩⟩⟩))⟩,⟨zmR aK (fun _ hk=>⟨hk.1.1.1.2,⟨hk.1.1.2,⟨hk.1.1.1.1,⟨hk.1.2,hk.2⟩⟩⟩⟩)⟩,⟨Kd.Q_of_R (zmR a4 (fun _ hk=>⟨hk.1.1.1.2,⟨hk.1.1.2,⟨hk.1.2,⟨hk.2,hk.1.1.1.1⟩⟩⟩⟩))⟩,⟨zmR a5 (fun _ hk=>⟨hk.1.1.1.2,⟨hk.1.1.2,⟨hk.1.2,⟨hk.2,hk.1.1.1.1⟩⟩⟩⟩)⟩,⟨zK_ ac⟩,⟨zK_ aa⟩,⟨zK_ ab⟩,⟨zB_ HB⟩⟩
 case rest =>
  clear b7;(try clear c2);(try clear b5);(try clear b6);(try clear bG);(try clear bH);(try clear bK);(try clear bL);(try clear bP);(try clear bQ);(try clear bV);(try clear bW);(try clear bI);(try clear bJ);(try clear bM);(try clear bO);(try clear bR);(try clear bU);(try clear bX);(try clear bY);obtain⟨kq,bv,rfl,HA,ei,ar,au,al,am,av,aw,ac,aa,ab,HB⟩:=hcut
  cases kq with
  | zero=>exact absurd HA.out (by simp [laws_FnExecuteContract.j0])
  | succ bd =>
   have H:=HA.out;clear HA;simp only [laws_FnExecuteContract.j0] at H
   by_cases bF:bv=true
   ·subst bF
    rw [if_pos rfl] at H
    by_cases bm:(aU == aY)=true
    ·rw [if_pos bm] at H
     have ck:(aU == aY)=true:=bm
     (try(have cl:decide (aU=aY)=true:=by simpa using bm))
     (try(have cm:(aU == aY)=true:=by simpa using bm))
     clear bm;obtain⟨cy,de,H⟩:=zbind H;obtain rfl:=sI H;have dJ:=bg.out;have dK:=bc.out;have dL:=aQ.out;have dM:=bi.out;have cT:=zc0 aa;have cU:=zc1 aa;have cV:=kF aa.out 0;have cW:=kF aa.out 1;have dN:=bh.out;have dO:=aN.out;have cX:=zc0 ab;have cY:=zc1 ab;have cZ:=kF ab.out 0;have da:=kF ab.out 1
     go_wp2_with (first|(go_at_call 9;(with_reducible refine(ll_.calls bd _ _ af _ _ ai _ _ ag _ _ ah cy _ ?aV ?aW ?a7 ?a8 ?bp ?bq ?br ?bu de.out).mono ?_);(case aV=>exact zDQ al);(case aW=>exact(Kd.Q_reads' al.out).2.1);(case a7=>exact zD am);(case a8=>exact(rR am.out).2.1);(case bp=>exact zDQ av);(case bq=>exact(Kd.Q_reads' av.out).2.1);(case br=>exact zD aw);(case bu=>exact(rR aw.out).2.1);rintro e w49 ⟨rfl,hb⟩;replace ar:=A0_ (Kd.Q_below (zQ_ ar) hb);replace au:=zR au hb;replace al:=A0_ (Kd.Q_below (zQ_ al) hb);replace am:=zR am hb;replace av:=A0_ (Kd.Q_below (zQ_ av) hb);replace aw:=zR aw hb;replace ac:=zK ac hb;replace aa:=zK aa hb;replace ab:=zK ab hb;replace HB:=zB HB hb;(try clear hb)))
     go_ret
     exact⟨by first|rfl|(simp [*] <;> rfl),zB_ HB⟩
    rw [if_neg bm] at H
    have ck:(aU == aY)=false:=by simpa using bm
    (try(have cl:decide (aU=aY)=false:=by simpa using bm))
    (try(have cm:(aU == aY)=false:=by simpa using bm))
    (try(have dP : ¬ (aU=aY):=by simpa using bm))
    clear bm;obtain rfl:=sI H
    go_wp2
    go_ret
    exact⟨by first|rfl|(simp [*] <;> rfl),zB_ HB⟩
   replace bF:=Bool.eq_false_iff.mpr bF;subst bF
   rw [if_neg (show ¬ (false=true) by decide)] at H
   obtain⟨bC,bx,H⟩:=zbind H
   have b8:=zpc H;replace H:=zph H
   have dQ:=eq_true b8;have dR:=dT b8
   try have dS:(9223372036854775807<bC.size+9)=False:=eq_false (Nat.not_lt.2 b8)
   obtain⟨zs52,hzs52⟩ : ∃ j_:ByteArray,(bC ++ (⟨#[99,111,110,116,114,97,99,116,32]⟩:ByteArray))=j_:=⟨_,rfl⟩
   replace H:((lh_.f bd bj).bind fun bn=>(if zs52.size+bn.size≤9223372036854775807 then (if (zs52 ++ bn).size+6≤9223372036854775807 then ((impl_Execute.f bd ((zs52 ++ bn) ++ (⟨#[10,115,104,111,119,10]⟩:ByteArray))).bind fun bk=>((lm_.f bd af ai).bind fun ba=>(if 6+ba.size≤9223372036854775807 then ((li_.f bd (af.length:Int)).bind fun bb=>(if ((⟨#[111,107,10,111,107,10]⟩:ByteArray) ++ ba).size+bb.size≤9223372036854775807 then (some (bk.toList == (((⟨#[111,107,10,111,107,10]⟩:ByteArray) ++ ba) ++ bb).toList)) else (none))) else (none)))) else (none)) else (none)))=some r:=by first|(rw [hzs52] at H;exact H)|(simp only [hzs52] at H ⊢;exact H)|exact H
   (try rw [hzs52] at bx)
   obtain⟨bn,bz,H⟩:=zbind H
   have b9:=zpc H;replace H:=zph H
   have dU:=eq_true b9;have dV:=dT b9
   try have dW:(9223372036854775807<zs52.size+bn.size)=False:=eq_false (Nat.not_lt.2 b9)
   obtain⟨zs55,hzs55⟩ : ∃ j_:ByteArray,(zs52 ++ bn)=j_:=⟨_,rfl⟩
   replace H:(if zs55.size+6≤9223372036854775807 then ((impl_Execute.f bd (zs55 ++ (⟨#[10,115,104,111,119,10]⟩:ByteArray))).bind fun bk=>((lm_.f bd af ai).bind fun ba=>(if 6+ba.size≤9223372036854775807 then ((li_.f bd (af.length:Int)).bind fun bb=>(if ((⟨#[111,107,10,111,107,10]⟩:ByteArray) ++ ba).size+bb.size≤9223372036854775807 then (some (bk.toList == (((⟨#[111,107,10,111,107,10]⟩:ByteArray) ++ ba) ++ bb).toList)) else (none))) else (none)))) else (none))=some r:=by first|(rw [hzs55] at H;exact H)|(simp only [hzs55] at H ⊢;exact H)|exact H
   (try rw [hzs55] at bx)
   (try rw [hzs55] at bz)
   have cd:=zpc H;replace H:=zph H
   have dX:=eq_true cd;have dY:=dT cd
   try have dZ:(9223372036854775807<zs55.size+6)=False:=eq_false (Nat.not_lt.2 cd)
   obtain⟨zs57,hzs57⟩ : ∃ j_:ByteArray,(zs55 ++ (⟨#[10,115,104,111,119,10]⟩:ByteArray))=j_:=⟨_,rfl⟩
   replace H:((impl_Execute.f bd zs57).bind fun bk=>((lm_.f bd af ai).bind fun ba=>(if 6+ba.size≤9223372036854775807 then ((li_.f bd (af.length:Int)).bind fun bb=>(if ((⟨#[111,107,10,111,107,10]⟩:ByteArray) ++ ba).size+bb.size≤9223372036854775807 then (some (bk.toList == (((⟨#[111,107,10,111,107,10]⟩:ByteArray) ++ ba) ++ bb).toList)) else (none))) else (none))))=some r:=by first|(rw [hzs57] at H;exact H)|(simp only [hzs57] at H ⊢;exact H)|exact H
   (try rw [hzs57] at bx)
   (try rw [hzs57] at bz)
   obtain⟨bk,ce,H⟩:=zbind H;obtain⟨ba,cf,H⟩:=zbind H
   have cg:=zpc H;replace H:=zph H
   have d4:=eq_true cg;have d5:=dT cg
   try have d6:(9223372036854775807<6+ba.size)=False:=eq_false (Nat.not_lt.2 cg)
   obtain⟨zs61,hzs61⟩ : ∃ j_:ByteArray,((⟨#[111,107,10,111,107,10]⟩:ByteArray) ++ ba)=j_:=⟨_,rfl⟩
   replace H:((li_.f bd (af.length:Int)).bind fun bb=>(if zs61.size+bb.size≤9223372036854775807 then (some (bk.toList == (zs61 ++ bb).toList)) else (none)))=some r:=by first|(rw [hzs61] at H;exact H)|(simp only [hzs61] at H ⊢;exact H)|exact H
   (try rw [hzs61] at bx)
   (try rw [hzs61] at bz)
   (try rw [hzs61] at ce)
   (try rw [hzs61] at cf)
   obtain⟨bb,cr,H⟩:=zbind H
   have ch:=zpc H;replace H:=zph H
   have d7:=eq_true ch;have d8:=dT ch
   try have d9:(9223372036854775807<zs61.size+bb.size)=False:=eq_false (Nat.not_lt.2 ch)
   obtain⟨zs64,hzs64⟩ : ∃ j_:ByteArray,(zs61 ++ bb)=j_:=⟨_,rfl⟩
   replace H:(some (bk.toList == zs64.toList))=some r:=by first|(rw [hzs64] at H;exact H)|(simp only [hzs64] at H ⊢;exact H)|exact H
   (try rw [hzs64] at bx)
   (try rw [hzs64] at bz)
   (try rw [hzs64] at ce)
   (try rw [hzs64] at cf)
   (try rw [hzs64] at cr)
   obtain rfl:=sI H
   try go_wp2
   replace ar:=A0_ (Kd.Q_drew ar.out)
   replace au:=A0_ (rD au.out)
   replace al:=A0_ (Kd.Q_drew al.out)
   replace am:=A0_ (rD am.out)
   replace av:=A0_ (Kd.Q_drew av.out)
   replace aw:=A0_ (rD aw.out)
   replace ac:=A0_ (kD ac.out)
   replace aa:=A0_ (kD aa.out)
   replace ab:=A0_ (kD ab.out)
   replace HB:=A0_ (bD HB.out)
   refine start_ (n:=18) (S:=fun w'=>w'.cell? ⟨aX,0,none⟩=some (.slice aI ao.length aH)∧w'.cell? ⟨aX,1,none⟩=some (.slice aD ap.length az)∧w'.cell? ⟨aZ,0,none⟩=some (.slice aA af.length ax)∧w'.cell? ⟨aZ,1,none⟩=some (.slice aC ai.length ay)) (ds := []) (bs 18 0) (by kernel_rfl) rfl rfl ⟨(kC ac.out 0).trans rfl,(kC ac.out 1).trans rfl,(kC aa.out 0).trans rfl,(kC aa.out 1).trans rfl⟩ (fun hHeld => ?_);refine with_tabW laws_FnExecuteContract.tab8 laws_FnExecuteContract.bits8 (fun HT_ HW_ => ?_)
   generalize wc.drew=w65 at ar au al am av aw ac aa ab HB hHeld ⊢
   refine zP 3 (some 53) (bs 18 8) ?_
   refine zP 11 (some 61) (bs 18 2056) ?_
   refine zT 0 (some 50) (bs 18 2057) hHeld ?_
   refine zT 8 (some 58) (bs 18 2313) hHeld ?_
   refine zT 12 (some 62) (bs 18 6409) hHeld ?_
   refine zP 13 (some 63) (bs 18 14601) ?_
   refine one_ (i:=1) (N:=some 51) (bs 18 14603) rfl rfl (one_of HT_.out (by kernel_rfl)) (by decide) (fun K hK => ?_)
   refine zg Tryz.func11 #[.agg #[.slice aI ao.length aH,.slice aD ap.length az]] ?_
   with_reducible refine(lj_.calls bd _ _ ao _ _ ap bC _ ?aV ?aW ?a7 ?a8 bx.out).mono ?_
   (case aV=>exact zDQ ar)
   (case aW=>exact(Kd.Q_reads' ar.out).2.1)
   (case a7=>exact zD au)
   (case a8=>exact(rR au.out).2.1)
   rintro e w66 ⟨rfl,hb⟩
   refine⟨_,rfl,?_⟩
   replace ar:=A0_ (Kd.Q_below (zQ_ ar) hb)
   replace au:=zR au hb
   replace al:=A0_ (Kd.Q_below (zQ_ al) hb)
   replace am:=zR am hb
   replace av:=A0_ (Kd.Q_below (zQ_ av) hb)
   replace aw:=zR aw hb;replace ac:=zK ac hb;replace aa:=zK aa hb;replace ab:=zK ab hb;replace HB:=zB HB hb;(try clear hb);(try clear hk)
   refine hK.out _ _ ⟨(kC ac.out 0).trans rfl,(kC ac.out 1).trans rfl,(kC aa.out 0).trans rfl,(kC aa.out 1).trans rfl⟩ (fun hHeld => ?_)
   clear hK K
   refine zN (some 51) ?_
   refine zP 2 (some 52) (bs 18 14607) ?_
   refine one_ (i:=4) (N:=some 54) (bs 18 14623) rfl rfl (one_of HT_.out (by kernel_rfl)) (by decide) (fun K hK => ?_)
   refine zg Tryz.func17 #[.int .i64 bj] ?_
   with_reducible refine(lh_.calls bd bj bn _ bz.out).mono ?_
   rintro e w67 ⟨rfl,hb⟩
   refine⟨_,rfl,?_⟩
   replace ar:=A0_ (Kd.Q_below (zQ_ ar) hb)
   replace au:=zR au hb
   replace al:=A0_ (Kd.Q_below (zQ_ al) hb)
   replace am:=zR am hb
   replace av:=A0_ (Kd.Q_below (zQ_ av) hb)
   replace aw:=zR aw hb;replace ac:=zK ac hb;replace aa:=zK aa hb;replace ab:=zK ab hb;replace HB:=zB HB hb;(try clear hb);(try clear hk)
   refine hK.out _ _ ⟨(kC ac.out 0).trans rfl,(kC ac.out 1).trans rfl,(kC aa.out 0).trans rfl,(kC aa.out 1).trans rfl⟩ (fun hHeld => ?_)
   clear hK K
   refine zN (some 54) ?_
   refine zP 5 (some 55) (bs 18 14655) ?_
   refine zP 6 (some 56) (bs 18 14719) ?_
   refine one_ (i:=7) (N:=some 57) (bs 18 14847) rfl rfl (one_of HT_.out (by kernel_rfl)) (by decide) (fun K hK => ?_)
   refine zg Tryz.func10 #[.string zs57] ?_
   with_reducible refine(impl_Execute.calls bd zs57 bk _ ce.out).mono ?_
   rintro e w68 ⟨rfl,hb⟩
   refine⟨_,rfl,?_⟩
   replace ar:=A0_ (Kd.Q_below (zQ_ ar) hb)
   replace au:=zR au hb
   replace al:=A0_ (Kd.Q_below (zQ_ al) hb)
   replace am:=zR am hb
   replace av:=A0_ (Kd.Q_below (zQ_ av) hb)
   replace aw:=zR aw hb;replace ac:=zK ac hb;replace aa:=zK aa hb;replace ab:=zK ab hb;replace HB:=zB HB hb;(try clear hb);(try clear hk)
   refine hK.out _ _ ⟨(kC ac.out 0).trans rfl,(kC ac.out 1).trans rfl,(kC aa.out 0).trans rfl,(kC aa.out 1).trans rfl⟩ (fun hHeld => ?_)
   clear hK K
   refine zN (some 57) ?_
   refine one_ (i:=9) (N:=some 59) (bs 18 15359) rfl rfl (one_of HT_.out (by kernel_rfl)) (by decide) (fun K hK => ?_)
   refine zg Tryz.func12 #[.agg #[.slice aA af.length ax,.slice aC ai.length ay]] ?_
   with_reducible refine(lm_.calls bd _ _ af _ _ ai ba _ ?aV ?aW ?a7 ?a8 cf.out).mono ?_
   (case aV=>exact zDQ al)
   (case aW=>exact(Kd.Q_reads' al.out).2.1)
   (case a7=>exact zD am)
   (case a8=>exact(rR am.out).2.1)
   rintro e w69 ⟨rfl,hb⟩
   refine⟨_,rfl,?_⟩
   replace ar:=A0_ (Kd.Q_below (zQ_ ar) hb)
   replace au:=zR au hb
   replace al:=A0_ (Kd.Q_below (zQ_ al) hb)
   replace am:=zR am hb
   replace av:=A0_ (Kd.Q_below (zQ_ av) hb)
   replace aw:=zR aw hb;replace ac:=zK ac hb;replace aa:=zK aa hb;replace ab:=zK ab hb;replace HB:=zB HB hb;(try clear hb);(try clear hk)
   refine hK.out _ _ ⟨(kC ac.out 0).trans rfl,(kC ac.out 1).trans rfl,(kC aa.out 0).trans rfl,(kC aa.out 1).trans rfl⟩ (fun hHeld => ?_)
   clear hK K
   refine zN (some 59) ?_
   refine zP 10 (some 60) (bs 18 16383) ?_
   refine one_ (i:=14) (N:=some 64) (bs 18 32767) rfl rfl (one_of HT_.out (by kernel_rfl)) (by decide) (fun K hK => ?_)
   refine zg Tryz.func13 #[.int .i64 (af.length:Int)] ?_
   with_reducible refine(li_.calls bd (af.length:Int) bb _ cr.out).mono ?_
   rintro e w70 ⟨rfl,hb⟩
   refine⟨_,rfl,?_⟩
   replace ar:=A0_ (Kd.Q_below (zQ_ ar) hb)
   replace au:=zR au hb
   replace al:=A0_ (Kd.Q_below (zQ_ al) hb)
   replace am:=zR am hb
   replace av:=A0_ (Kd.Q_below (zQ_ av) hb)
   replace aw:=zR aw hb;replace ac:=zK ac hb;replace aa:=zK aa hb;replace ab:=zK ab hb;replace HB:=zB HB hb;(try clear hb);(try clear hk)
   refine hK.out _ _ ⟨(kC ac.out 0).trans rfl,(kC ac.out 1).trans rfl,(kC aa.out 0).trans rfl,(kC aa.out 1).trans rfl⟩ (fun hHeld => ?_)
   clear hK K
   refine zN (some 64) ?_
   refine zP 15 (some 65) (bs 18 65535) ?_
   refine zP 16 (some 66) (bs 18 131071) ?_
   refine zP 17 (some 2) (bs 18 262143) ?_
   refine done_ (done_of HT_.out (by kernel_rfl)) ?_
   try go_wp2
   go_ret
   exact⟨by first|rfl|(simp [*] <;> rfl),zB_ HB⟩
/-- THE ONE PURE STATEMENT of laws_FnExecuteContract: yours. -/
def laws_FnExecuteContract.Pure:Prop := ∀ (l0:List Int),l0.length≤maxLen→l0.length*1≤140737488351232→(∀ x ∈ l0,(Lit.int .u8 x).wf=true) → ∃ k,laws_FnExecuteContract.f k l0=some true
theorem laws_FnExecuteContract.walk (P:laws_FnExecuteContract.Pure) (a0:Option Addr) (len0 cap0:Nat) (z0:List Int) (w:World) (w0:(a0=none∧len0=0∧cap0=0∧z0 = []) ∨ ∃ x,a0=some x∧len0≤cap0∧cap0≤maxLen∧z0.length=cap0∧(∀ i,i<z0.length→w.cell? (x.add i)=some (.int .u8 (z0.getD i 0))) ∧ ∀ n ∈ z0,(Lit.int .u8 n).wf=true) (y0:len0*1≤140737488351232) :
  Calls Tryz.prog 5 #[.slice a0 len0 cap0] w fun e w'=>e = .returned (.bool true)∧Below w.heap.size w w':=by
 obtain⟨l0,rfl,aa,hm0,ab,ac⟩:=ReadsInt.ofRowC w0;obtain⟨k,h⟩:=P l0 hm0 y0 ab
 refine(laws_FnExecuteContract.calls k _ _ l0 true w (Kd.C_of_reads (d:=(0:Int)) (h1:=fun _=>rfl) aa) ac h).mono ?_
 rintro e w' ⟨rfl,hd⟩
 exact⟨rfl,hd⟩
end Go.Proofs.YtjebcgbmlbemcaaGreatDoor.PFnExecuteContract
